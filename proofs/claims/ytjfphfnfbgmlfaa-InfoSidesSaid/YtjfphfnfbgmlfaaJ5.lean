/- The walk of InfoSides. -/
import Derived.Test.YtjfphfnfbgmlfaaI11
namespace Go.Proofs.Ytjfphfnfbgmlfaa
open Go.RowKit

theorem Iq.Sml.mono {m n : Nat} {i : Iq} (h : i.Sml m) (hn : m ≤ n) : i.Sml n := ⟨h.A.mono hn, h.B.mono hn, h.D.mono hn, h.U.mono hn, h.V.mono hn, h.Z.mono hn, h.N.mono hn⟩
theorem sides_sums (p q a b c d : Int) (h1 : -67108864 ≤ p ∧ p ≤ 67108864 ∧ -67108864 ≤ q ∧ q ≤ 67108864) (h2 : -4194304 ≤ a ∧ a ≤ 4194304 ∧ -4194304 ≤ b ∧ b ≤ 4194304) (h3 : -16777216 ≤ c ∧ c ≤ 16777216 ∧ -16777216 ≤ d ∧ d ≤ 16777216) :
    (-20000000000000000 ≤ c * (p - a) ∧ c * (p - a) ≤ 20000000000000000) ∧ (-20000000000000000 ≤ d * (q - b) ∧ d * (q - b) ≤ 20000000000000000) := by
  have a1 := mul_rng c (p - a) 16777216 1077936128 (by omega) (by omega) (by omega) (by omega)
  have a2 := mul_rng d (q - b) 16777216 1077936128 (by omega) (by omega) (by omega) (by omega)
  omega
theorem bk_facts {w : World} {b : Nat} {c : Array Value} {t : TypeId} (h : Blk w b c t) :
    b < w.heap.size ∧ (∀ o, w.cell? ⟨b, o, none⟩ = c[o]?) ∧ (∀ o, w.frozen? ⟨b, o, none⟩ = false) ∧ w.row? b 0 c.size = some c :=
  ⟨h.lt, h.at, h.frozen, h.row?_all _ rfl⟩
theorem sides_cases (p q : Int) (m k : Bool) : p < -67108864 ∨ (¬ p < -67108864 ∧ 67108864 < p) ∨ (¬ p < -67108864 ∧ ¬ 67108864 < p ∧ q < -67108864) ∨ (¬ p < -67108864 ∧ ¬ 67108864 < p ∧ ¬ q < -67108864 ∧ 67108864 < q) ∨
    (¬ p < -67108864 ∧ ¬ 67108864 < p ∧ ¬ q < -67108864 ∧ ¬ 67108864 < q ∧ m = false) ∨ (¬ p < -67108864 ∧ ¬ 67108864 < p ∧ ¬ q < -67108864 ∧ ¬ 67108864 < q ∧ m = true ∧ k = false) ∨ (¬ p < -67108864 ∧ ¬ 67108864 < p ∧ ¬ q < -67108864 ∧ ¬ 67108864 < q ∧ m = true ∧ k = true) := by
  cases m <;> cases k <;> simp <;> omega
theorem infoIn_v (i : Iq) (L : List WI) (h : i.Sml 205) (p q : Int) (hp : -1073741824 ≤ p ∧ p ≤ 1073741824 ∧ -1073741824 ≤ q ∧ q ≤ 1073741824) (k : Bool) (hL : i.ws = L) (hk : decide (i.hom p q 1 ≤ i.N) = k) (w : World) :
    Calls Try.prog 24 #[.agg (blk L), ptV p q] w fun e w' => e = .returned (.bool k) ∧ Below w.heap.size w w' := by
  subst hL; subst hk; exact infoIn_c i h p q hp w
set_option maxRecDepth 100000 in
set_option maxHeartbeats 8000000 in
theorem infoSides_c (x y a b d s1 s2 s3 s4 s5 s6 n p q : Int) (w : World) :
    Calls Try.prog 7 #[elC x y a b d, stC s1 s2 s3 s4 s5 s6, .int .i64 n, ptV p q] w fun e w' => e = .returned (.bool true) ∧ Below w.heap.size w w' := by
  obtain ⟨m, hm⟩ : ∃ m, El.may ⟨x, y, a, b, d⟩ = m := ⟨_, rfl⟩
  obtain ⟨k, hk⟩ : ∃ m, St.may ⟨s1, s2, s3, s4, s5, s6⟩ = m := ⟨_, rfl⟩
  have HM := Lib.hid hm
  have HK := Lib.hid hk
  rcases sides_cases p q m k with g1 | ⟨g1, g2⟩ | ⟨g1, g2, g3⟩ | ⟨g1, g2, g3, g4⟩ | ⟨g1, g2, g3, g4, rfl⟩ | ⟨g1, g2, g3, g4, rfl, rfl⟩ | ⟨g1, g2, g3, g4, rfl, rfl⟩
  case inr.inr.inr.inr.inr.inr =>
    obtain ⟨K, hK⟩ : ∃ K, wrap64 ((IntKind.u64.wrap n).tmod 35) = K := ⟨_, rfl⟩
    have K0 : 0 ≤ K ∧ K < 35 := by rw [← hK]; exact rem_range n 35 (by decide) (by decide)
    obtain ⟨t1, t2, -, t3, t4, t5⟩ := (St.may_iff _).1 hk
    simp only at t1 t2 t3 t4 t5
    have pb : -1073741824 ≤ p ∧ p ≤ 1073741824 ∧ -1073741824 ≤ q ∧ q ≤ 1073741824 := by omega
    have SS := sides_sums p q s1 s2 s3 s4 (by omega) t1 t2
    obtain ⟨LI, eI⟩ : ∃ l, (ofEl ⟨x, y, a, b, d⟩).ws = l := ⟨_, rfl⟩
    obtain ⟨LJ, eJ⟩ : ∃ l, (ofStl ⟨s1, s2, s3, s4, s5, s6⟩).ws = l := ⟨_, rfl⟩
    obtain ⟨LM, eM⟩ : ∃ l, (mixI (ofEl ⟨x, y, a, b, d⟩) (ofStl ⟨s1, s2, s3, s4, s5, s6⟩) K).ws = l := ⟨_, rfl⟩
    have lI : LI.length = 7 := by rw [← eI]; rfl
    have lJ : LJ.length = 7 := by rw [← eJ]; rfl
    have lM : LM.length = 7 := by rw [← eM]; rfl
    have o1 := ofE_may _ hm
    have o2 := ofSt_may _ hk
    have sI : (ofEl ⟨x, y, a, b, d⟩).Sml 120 := by have := (ofE_cls ⟨x, y, a, b, d⟩).sml (by decide) (by decide); rw [o1] at this; exact this
    have sJ : (ofStl ⟨s1, s2, s3, s4, s5, s6⟩).Sml 120 := by have := (ofSt_cls ⟨s1, s2, s3, s4, s5, s6⟩).sml (by decide) (by decide); rw [o2] at this; exact this
    have qM : mixQ (ofEl ⟨x, y, a, b, d⟩) (ofStl ⟨s1, s2, s3, s4, s5, s6⟩) K = (mixI (ofEl ⟨x, y, a, b, d⟩) (ofStl ⟨s1, s2, s3, s4, s5, s6⟩) K, 0) := by unfold mixQ; rw [if_pos (by omega)]
    have sM : (mixI (ofEl ⟨x, y, a, b, d⟩) (ofStl ⟨s1, s2, s3, s4, s5, s6⟩) K).Sml 205 := by
      have := cut_sml ⟨x, y, a, b, d⟩ ⟨s1, s2, s3, s4, s5, s6⟩ K
      rw [o1, o2] at this
      have e : (mixQ (ofEl ⟨x, y, a, b, d⟩, (0 : Int)).1 (ofStl ⟨s1, s2, s3, s4, s5, s6⟩, (0 : Int)).1 K).1 = mixI (ofEl ⟨x, y, a, b, d⟩) (ofStl ⟨s1, s2, s3, s4, s5, s6⟩) K := congrArg Prod.fst qM
      rw [e] at this; exact this
    have H1 : Hid (∀ w, Calls Try.prog 21 #[elC x y a b d] w fun r w' => r = .returned (.tuple #[.agg (blk LI), .int .i64 0]) ∧ Below w.heap.size w w') := of_v _ _ _ _ _ _ _ (by rw [o1]; exact eI) (by rw [o1])
    have H2 : Hid (∀ w, Calls Try.prog 22 #[stC s1 s2 s3 s4 s5 s6] w fun r w' => r = .returned (.tuple #[.agg (blk LJ), .int .i64 0]) ∧ Below w.heap.size w w') := ofst_v _ _ _ _ _ _ _ _ (by rw [o2]; exact eJ) (by rw [o2])
    have H3 : Hid (∀ w, Calls Try.prog 23 #[.agg (blk LI), .agg (blk LJ), .int .i64 K] w fun r w' => r = .returned (.tuple #[.agg (blk LM), .int .i64 0]) ∧ Below w.heap.size w w') := by
      rw [← eI, ← eJ, ← eM]; exact fun w => mix_v _ _ _ 0 sI sJ K qM w
    obtain ⟨P, hP⟩ : ∃ P, p - s1 = P := ⟨_, rfl⟩
    obtain ⟨Q, hQ⟩ : ∃ P, q - s2 = P := ⟨_, rfl⟩
    have PB : -1077936128 ≤ P ∧ P ≤ 1077936128 ∧ -1077936128 ≤ Q ∧ Q ≤ 1077936128 := by omega
    have SD := st_side ⟨s1, s2, s3, s4, s5, s6⟩ hk p q _ rfl
    simp only at SD
    rw [hP, hQ] at SS SD
    obtain ⟨M, hM⟩ : ∃ M, s3 * P = M := ⟨_, rfl⟩
    obtain ⟨N, hN⟩ : ∃ M, s4 * Q = M := ⟨_, rfl⟩
    rw [hM, hN] at SS SD
    obtain ⟨L, hL⟩ : ∃ L, M + N = L := ⟨_, rfl⟩
    rw [hL] at SD
    have LB : -40000000000000000 ≤ L ∧ L ≤ 40000000000000000 := by omega
    obtain ⟨A, hA⟩ : ∃ A, El.has ⟨x, y, a, b, d⟩ p q = A := ⟨_, rfl⟩
    obtain ⟨B, hB⟩ : ∃ B, decide (s5 ≤ L ∧ L ≤ s6) = B := ⟨_, rfl⟩
    have dA : decide ((ofEl ⟨x, y, a, b, d⟩).hom p q 1 ≤ (ofEl ⟨x, y, a, b, d⟩).N) = A := by
      rw [← hA]
      cases hh : El.has ⟨x, y, a, b, d⟩ p q with
      | true => exact decide_eq_true (has_hom _ _ _ hh)
      | false => exact decide_eq_false (fun h => by rw [hom_has _ hm p q pb h] at hh; cases hh)
    have dB : decide ((ofStl ⟨s1, s2, s3, s4, s5, s6⟩).hom p q 1 ≤ (ofStl ⟨s1, s2, s3, s4, s5, s6⟩).N) = B := by
      rw [← hB]
      by_cases hh : s5 ≤ L ∧ L ≤ s6
      · rw [decide_eq_true hh]; exact decide_eq_true (SD.2 hh)
      · rw [decide_eq_false hh]; exact decide_eq_false (fun h => hh (SD.1 h))
    have dM : A = true → B = true → decide ((mixI (ofEl ⟨x, y, a, b, d⟩) (ofStl ⟨s1, s2, s3, s4, s5, s6⟩) K).hom p q 1 ≤ (mixI (ofEl ⟨x, y, a, b, d⟩) (ofStl ⟨s1, s2, s3, s4, s5, s6⟩) K).N) = true := by
      intro h1 h2
      rw [h1] at dA; rw [h2] at dB
      exact decide_eq_true (mix_hom_le _ _ K p q K0.1 (by omega) (may_of _ hm).2.2.2 (st_N _ hk) (of_decide_eq_true dA) (of_decide_eq_true dB))
    have H4 : Hid (∀ w, Calls Try.prog 24 #[.agg (blk LI), ptV p q] w fun r w' => r = .returned (.bool A) ∧ Below w.heap.size w w') := fun w => infoIn_v _ LI (sI.mono (by decide)) p q pb A eI dA w
    have H5 : Hid (∀ w, Calls Try.prog 24 #[.agg (blk LJ), ptV p q] w fun r w' => r = .returned (.bool B) ∧ Below w.heap.size w w') := fun w => infoIn_v _ LJ (sJ.mono (by decide)) p q pb B eJ dB w
    have H6 : Hid (A = true → B = true → ∀ w, Calls Try.prog 24 #[.agg (blk LM), ptV p q] w fun r w' => r = .returned (.bool true) ∧ Below w.heap.size w w') := fun h1 h2 w => infoIn_v _ LM sM p q pb true eM (dM h1 h2) w
    have HA := Lib.hid hA
    have HB0 := Lib.hid hB
    obtain ⟨pp1, pp2, pp3, pp4⟩ := PB
    obtain ⟨⟨ss1, ss2⟩, ⟨ss3, ss4⟩⟩ := SS
    obtain ⟨ll1, ll2⟩ := LB
    clear hm hk t1 t2 t3 t4 t5 pb eI eJ eM o1 o2 sI sJ qM sM SD dA dB dM hA hB K0
    go_enter Try.func7, Try.ntmps7
    go_wp2_with fail
    refine (ellmay_v _ _ _ _ _ _ HM.out _).mono ?_; rintro e w1 ⟨rfl, hb1⟩; have z_w1 := hb1.size; (try simp at z_w1); obtain ⟨y_w1_0_0, c_w1_0_0, f_w1_0_0, r_w1_0_0, t_w1_0_0, p_w1_0_0⟩ := bk hb1 (w.heap.size) (by first | omega | (simp; done) | (simp; omega) | fail); obtain ⟨y_w1_0_1, c_w1_0_1, f_w1_0_1, r_w1_0_1, t_w1_0_1, p_w1_0_1⟩ := bk hb1 (w.heap.size + 1) (by first | omega | (simp; done) | (simp; omega) | fail); obtain ⟨y_w1_0_2, c_w1_0_2, f_w1_0_2, r_w1_0_2, t_w1_0_2, p_w1_0_2⟩ := bk hb1 (w.heap.size + 1 + 1) (by first | omega | (simp; done) | (simp; omega) | fail)
    go_wp2_with fail
    refine (mayStrip_v _ _ _ _ _ _ _ HK.out _).mono ?_; rintro e w2 ⟨rfl, hb2⟩; have z_w2 := hb2.size; (try simp at z_w2); obtain ⟨y_w2_0_0, c_w2_0_0, f_w2_0_0, r_w2_0_0, t_w2_0_0, p_w2_0_0⟩ := bk hb2 (w.heap.size) (by first | omega | (simp; done) | (simp; omega) | fail); obtain ⟨y_w2_0_1, c_w2_0_1, f_w2_0_1, r_w2_0_1, t_w2_0_1, p_w2_0_1⟩ := bk hb2 (w.heap.size + 1) (by first | omega | (simp; done) | (simp; omega) | fail); obtain ⟨y_w2_0_2, c_w2_0_2, f_w2_0_2, r_w2_0_2, t_w2_0_2, p_w2_0_2⟩ := bk hb2 (w.heap.size + 1 + 1) (by first | omega | (simp; done) | (simp; omega) | fail)
    go_wp2_with fail
    refine (H1.out _).mono ?_; rintro e w3 ⟨rfl, hb3⟩; have z_w3 := hb3.size; (try simp at z_w3); obtain ⟨y_w3_0_0, c_w3_0_0, f_w3_0_0, r_w3_0_0, t_w3_0_0, p_w3_0_0⟩ := bk hb3 (w.heap.size) (by first | omega | (simp; done) | (simp; omega) | fail); obtain ⟨y_w3_0_1, c_w3_0_1, f_w3_0_1, r_w3_0_1, t_w3_0_1, p_w3_0_1⟩ := bk hb3 (w.heap.size + 1) (by first | omega | (simp; done) | (simp; omega) | fail); obtain ⟨y_w3_0_2, c_w3_0_2, f_w3_0_2, r_w3_0_2, t_w3_0_2, p_w3_0_2⟩ := bk hb3 (w.heap.size + 1 + 1) (by first | omega | (simp; done) | (simp; omega) | fail)
    go_wp2_with fail
    refine (H2.out _).mono ?_; rintro e w4 ⟨rfl, hb4⟩; have z_w4 := hb4.size; (try simp at z_w4); obtain ⟨y_w4_0_0, c_w4_0_0, f_w4_0_0, r_w4_0_0, t_w4_0_0, p_w4_0_0⟩ := bk hb4 (w.heap.size) (by first | omega | (simp; done) | (simp; omega) | fail); obtain ⟨y_w4_0_1, c_w4_0_1, f_w4_0_1, r_w4_0_1, t_w4_0_1, p_w4_0_1⟩ := bk hb4 (w.heap.size + 1) (by first | omega | (simp; done) | (simp; omega) | fail); obtain ⟨y_w4_0_2, c_w4_0_2, f_w4_0_2, r_w4_0_2, t_w4_0_2, p_w4_0_2⟩ := bk hb4 (w.heap.size + 1 + 1) (by first | omega | (simp; done) | (simp; omega) | fail); obtain ⟨y_w4_1_0, c_w4_1_0, f_w4_1_0, r_w4_1_0, t_w4_1_0, p_w4_1_0⟩ := bk hb4 (w3.heap.size) (by first | omega | (simp; done) | (simp; omega) | fail)
    go_wp2_with fail
    refine (H3.out _).mono ?_; rintro e w5 ⟨rfl, hb5⟩; have z_w5 := hb5.size; (try simp at z_w5); obtain ⟨y_w5_0_0, c_w5_0_0, f_w5_0_0, r_w5_0_0, t_w5_0_0, p_w5_0_0⟩ := bk hb5 (w.heap.size) (by first | omega | (simp; done) | (simp; omega) | fail); obtain ⟨y_w5_0_1, c_w5_0_1, f_w5_0_1, r_w5_0_1, t_w5_0_1, p_w5_0_1⟩ := bk hb5 (w.heap.size + 1) (by first | omega | (simp; done) | (simp; omega) | fail); obtain ⟨y_w5_0_2, c_w5_0_2, f_w5_0_2, r_w5_0_2, t_w5_0_2, p_w5_0_2⟩ := bk hb5 (w.heap.size + 1 + 1) (by first | omega | (simp; done) | (simp; omega) | fail); obtain ⟨y_w5_1_0, c_w5_1_0, f_w5_1_0, r_w5_1_0, t_w5_1_0, p_w5_1_0⟩ := bk hb5 (w3.heap.size) (by first | omega | (simp; done) | (simp; omega) | fail); obtain ⟨y_w5_2_0, c_w5_2_0, f_w5_2_0, r_w5_2_0, t_w5_2_0, p_w5_2_0⟩ := bk hb5 (w4.heap.size) (by first | omega | (simp; done) | (simp; omega) | fail)
    go_wp2_with fail
    obtain ⟨w6, hw6⟩ : ∃ w6, w6 = w5.alloc (Obj.cells (blk LM) 50) := ⟨_, rfl⟩
    rw [← hw6]
    have BE0 : Blk w2 w.heap.size #[.int .i64 x, .int .i64 y, .int .i64 a, .int .i64 b, .int .i64 d] 27 := ((((Blk.new _ _ _).alloc _).alloc _).keep hb1).keep hb2
    have BS0 : Blk w2 (w.heap.size + 1) #[.int .i64 s1, .int .i64 s2, .int .i64 s3, .int .i64 s4, .int .i64 s5, .int .i64 s6] 40 := (((Blk.new' _ _ _ (by simp)).alloc _).keep hb1).keep hb2
    have BP0 : Blk w2 (w.heap.size + 1 + 1) #[.int .i64 p, .int .i64 q] 23 := ((Blk.new' _ _ _ (by simp)).keep hb1).keep hb2
    have BE : Hid (Blk w6 w.heap.size #[.int .i64 x, .int .i64 y, .int .i64 a, .int .i64 b, .int .i64 d] 27) := by rw [hw6]; exact ((((((BE0.keep hb3).alloc _).keep hb4).alloc _).keep hb5).alloc _)
    have BS : Hid (Blk w6 (w.heap.size + 1) #[.int .i64 s1, .int .i64 s2, .int .i64 s3, .int .i64 s4, .int .i64 s5, .int .i64 s6] 40) := by rw [hw6]; exact ((((((BS0.keep hb3).alloc _).keep hb4).alloc _).keep hb5).alloc _)
    have BP : Hid (Blk w6 (w.heap.size + 1 + 1) #[.int .i64 p, .int .i64 q] 23) := by rw [hw6]; exact ((((((BP0.keep hb3).alloc _).keep hb4).alloc _).keep hb5).alloc _)
    have BI : Hid (Blk w6 w3.heap.size (blk LI) 50) := by rw [hw6]; exact (((((Blk.new _ _ _).keep hb4).alloc _).keep hb5).alloc _)
    have BJ : Hid (Blk w6 w4.heap.size (blk LJ) 50) := by rw [hw6]; exact (((Blk.new _ _ _).keep hb5).alloc _)
    have BM : Hid (Blk w6 w5.heap.size (blk LM) 50) := by rw [hw6]; exact Blk.new _ _ _
    have HB6 : Hid (Below w.heap.size w w6) := by rw [hw6]; exact (show Below _ _ _ from (by repeat (first | with_reducible exact Below.refl _ _ | with_reducible exact Below_of_hid (by assumption) | with_reducible refine Below.drew ?_ | with_reducible refine below_drewN ?_ _ | (with_reducible refine Below_putRow ?_ ?hB _ _; case hB => (first | omega | (simp; done) | (simp; omega))) | (with_reducible refine Below.alloc ?_ ?hB _; case hB => (first | omega | (simp; done) | (simp; omega))) | (with_reducible refine Below.setCell ?_ ?hB _; case hB => (first | omega | (simp; done) | (simp; omega))) | (with_reducible refine Below.trans ?_ (Below.mono (by assumption) ?hB); case hB => (first | omega | (simp; done) | (simp; omega))))))
    clear hw6 hb1 hb2 hb3 hb4 hb5 BE0 BS0 BP0
    clear z_w1 y_w1_0_0 c_w1_0_0 f_w1_0_0 r_w1_0_0 t_w1_0_0 p_w1_0_0 y_w1_0_1 c_w1_0_1 f_w1_0_1 r_w1_0_1 t_w1_0_1 p_w1_0_1 y_w1_0_2 c_w1_0_2 f_w1_0_2 r_w1_0_2 t_w1_0_2 p_w1_0_2
    clear z_w2 y_w2_0_0 c_w2_0_0 f_w2_0_0 r_w2_0_0 t_w2_0_0 p_w2_0_0 y_w2_0_1 c_w2_0_1 f_w2_0_1 r_w2_0_1 t_w2_0_1 p_w2_0_1 y_w2_0_2 c_w2_0_2 f_w2_0_2 r_w2_0_2 t_w2_0_2 p_w2_0_2
    clear z_w3 y_w3_0_0 c_w3_0_0 f_w3_0_0 r_w3_0_0 t_w3_0_0 p_w3_0_0 y_w3_0_1 c_w3_0_1 f_w3_0_1 r_w3_0_1 t_w3_0_1 p_w3_0_1 y_w3_0_2 c_w3_0_2 f_w3_0_2 r_w3_0_2 t_w3_0_2 p_w3_0_2
    clear z_w4 y_w4_0_0 c_w4_0_0 f_w4_0_0 r_w4_0_0 t_w4_0_0 p_w4_0_0 y_w4_0_1 c_w4_0_1 f_w4_0_1 r_w4_0_1 t_w4_0_1 p_w4_0_1 y_w4_0_2 c_w4_0_2 f_w4_0_2 r_w4_0_2 t_w4_0_2 p_w4_0_2 y_w4_1_0 c_w4_1_0 f_w4_1_0 r_w4_1_0 t_w4_1_0 p_w4_1_0
    clear z_w5 y_w5_0_0 c_w5_0_0 f_w5_0_0 r_w5_0_0 t_w5_0_0 p_w5_0_0 y_w5_0_1 c_w5_0_1 f_w5_0_1 r_w5_0_1 t_w5_0_1 p_w5_0_1 y_w5_0_2 c_w5_0_2 f_w5_0_2 r_w5_0_2 t_w5_0_2 p_w5_0_2 y_w5_1_0 c_w5_1_0 f_w5_1_0 r_w5_1_0 t_w5_1_0 p_w5_1_0 y_w5_2_0 c_w5_2_0 f_w5_2_0 r_w5_2_0 t_w5_2_0 p_w5_2_0
    go_cut [16, 17] from 88 (fun sa sb we => sa = .bool A ∧ sb = .bool B ∧ Hid (Below w6.heap.size w6 we))
    case first =>
      have c0 := @inw_cell _ _ _ (BP.out.cell (i := 0) rfl)
      have c1 := @inw_cell _ _ _ (BP.out.cell (i := 1) rfl)
      have i0 := @inw_row _ _ _ _ _ (BI.out.row?_all 126 (by rw [blk_size, lI]))
      have i1 := @inw_row _ _ _ _ _ (BJ.out.row?_all 126 (by rw [blk_size, lJ]))
      refine wp_region_fresh' 6 (fun _ => none) (fun _ => []) (by kernel_rfl) (by kernel_rfl) ?_; refine ex_list ?_; apply Exists.intro; refine ex_list ?_; apply Exists.intro; refine ex_list ?_; apply Exists.intro; refine ex_list ?_; apply Exists.intro; refine ex_list ?_; apply Exists.intro; refine ex_list ?_; apply Exists.intro; refine ⟨[], fun gg NN hN => ?_⟩; simp only [List.take_succ_cons, List.take_zero, List.drop_succ_cons, List.drop_zero]; (repeat (refine lexF_quiet rfl ?_; go_big_quiet_step (first | exact rfl | ((go_at_call 24; exact calls_in (by first | with_reducible exact H4.out _ | with_reducible exact H5.out _)))); refine wpQuiet_nil ⟨rfl, ?_⟩))
      refine lexF_nil ?_
      intro w7 hb7' hh _
      have hb7 : Below w6.heap.size w6 w7 := hb7'
      clear hh hb7'
      go_wp2_with fail
      go_meet
      exact ⟨rfl, rfl, hb7⟩
    case rest =>
      obtain ⟨rfl, rfl, HB7⟩ := hcut
      have hb7 := HB7.out
      have hb0 := HB6.out.trans (hb7.mono HB6.out.size)
      have BE7 := BE.out.keep hb7
      have BS7 := BS.out.keep hb7
      have BP7 := BP.out.keep hb7
      have BM7 := BM.out.keep hb7
      have rM := BM7.row?_all 126 (by rw [blk_size, lM])
      obtain ⟨ye, ce, fe, re⟩ := bk_facts BE7
      obtain ⟨ys, cs, fs, rs⟩ := bk_facts BS7
      obtain ⟨yp, cp, fp, rp⟩ := bk_facts BP7
      clear BE BS BP BI BJ BM HB6 HB7 hb7
      have ways : (L < s5 ∧ B = false) ∨ (¬ L < s5 ∧ s6 < L ∧ B = false) ∨ (¬ L < s5 ∧ ¬ s6 < L ∧ B = true) := by
        have h := HB0.out
        by_cases h1 : L < s5
        · exact .inl ⟨h1, by rw [← h]; exact decide_eq_false (by omega)⟩
        · by_cases h2 : s6 < L
          · exact .inr (.inl ⟨h1, h2, by rw [← h]; exact decide_eq_false (by omega)⟩)
          · exact .inr (.inr ⟨h1, h2, by rw [← h]; exact decide_eq_true (by omega)⟩)
      go_wp2_with fail
      refine (ellin_v _ _ _ _ _ _ _ _ HA.out _).mono ?_; rintro e w8 ⟨rfl, hb8⟩
      have BS8 := BS7.keep hb8
      have BP8 := BP7.keep hb8
      have rM8 := (BM7.keep hb8).row?_all 126 (by rw [blk_size, lM])
      obtain ⟨ys8, cs8, fs8, rs8⟩ := bk_facts BS8
      obtain ⟨yp8, cp8, fp8, rp8⟩ := bk_facts BP8
      have hb9 := hb0.trans (hb8.mono hb0.size)
      clear hb0 hb8 BE7 BS7 BP7 BM7 BS8 BP8 ye ce fe re ys cs fs rs yp cp fp rp rM
      rcases ways with ⟨v1, rfl⟩ | ⟨v1, v2, rfl⟩ | ⟨v1, v2, rfl⟩
      case inr.inr =>
        cases A with
        | false =>
          go_wp2_with fail
          refine (awake6_c _).mono ?_; rintro e wz ⟨rfl, hbz⟩
          go_wp2
          go_ret
          exact ⟨rfl, hb9.trans (hbz.mono hb9.size)⟩
        | true =>
          go_wp2_with fail
          refine (H6.out (by first | rfl | trivial) (by first | rfl | trivial) _).mono ?_; rintro e wy ⟨rfl, hby⟩
          go_wp2_with fail
          refine (awake6_c _).mono ?_; rintro e wz ⟨rfl, hbz⟩
          go_wp2
          go_ret
          have hba := hb9.trans (hby.mono hb9.size)
          exact ⟨rfl, hba.trans (hbz.mono hba.size)⟩
      all_goals cases A
      all_goals go_wp2_with fail
      all_goals (refine (awake6_c _).mono ?_; rintro e wz ⟨rfl, hbz⟩)
      all_goals go_wp2
      all_goals go_ret
      all_goals exact ⟨rfl, hb9.trans (hbz.mono hb9.size)⟩
  case inr.inr.inr.inr.inl =>
    clear hm hk
    go_enter Try.func7, Try.ntmps7
    go_wp2_with fail
    refine (ellmay_v _ _ _ _ _ _ HM.out _).mono ?_; rintro e w1 ⟨rfl, hb1⟩; have z_w1 := hb1.size; (try simp at z_w1); obtain ⟨y_w1_0_0, c_w1_0_0, f_w1_0_0, r_w1_0_0, t_w1_0_0, p_w1_0_0⟩ := bk hb1 (w.heap.size) (by first | omega | (simp; done) | (simp; omega) | fail); obtain ⟨y_w1_0_1, c_w1_0_1, f_w1_0_1, r_w1_0_1, t_w1_0_1, p_w1_0_1⟩ := bk hb1 (w.heap.size + 1) (by first | omega | (simp; done) | (simp; omega) | fail); obtain ⟨y_w1_0_2, c_w1_0_2, f_w1_0_2, r_w1_0_2, t_w1_0_2, p_w1_0_2⟩ := bk hb1 (w.heap.size + 1 + 1) (by first | omega | (simp; done) | (simp; omega) | fail)
    go_wp2_with fail
    refine (awake6_c _).mono ?_; rintro e w5 ⟨rfl, hb5⟩
    go_wp2
    go_ret
    exact ⟨rfl, (by repeat (first | with_reducible exact Below.refl _ _ | with_reducible exact Below_of_hid (by assumption) | with_reducible refine Below.drew ?_ | with_reducible refine below_drewN ?_ _ | (with_reducible refine Below_putRow ?_ ?hB _ _; case hB => (first | omega | (simp; done) | (simp; omega))) | (with_reducible refine Below.alloc ?_ ?hB _; case hB => (first | omega | (simp; done) | (simp; omega))) | (with_reducible refine Below.setCell ?_ ?hB _; case hB => (first | omega | (simp; done) | (simp; omega))) | (with_reducible refine Below.trans ?_ (Below.mono (by assumption) ?hB); case hB => (first | omega | (simp; done) | (simp; omega)))))⟩
  case inr.inr.inr.inr.inr.inl =>
    clear hm hk
    go_enter Try.func7, Try.ntmps7
    go_wp2_with fail
    refine (ellmay_v _ _ _ _ _ _ HM.out _).mono ?_; rintro e w1 ⟨rfl, hb1⟩; have z_w1 := hb1.size; (try simp at z_w1); obtain ⟨y_w1_0_0, c_w1_0_0, f_w1_0_0, r_w1_0_0, t_w1_0_0, p_w1_0_0⟩ := bk hb1 (w.heap.size) (by first | omega | (simp; done) | (simp; omega) | fail); obtain ⟨y_w1_0_1, c_w1_0_1, f_w1_0_1, r_w1_0_1, t_w1_0_1, p_w1_0_1⟩ := bk hb1 (w.heap.size + 1) (by first | omega | (simp; done) | (simp; omega) | fail); obtain ⟨y_w1_0_2, c_w1_0_2, f_w1_0_2, r_w1_0_2, t_w1_0_2, p_w1_0_2⟩ := bk hb1 (w.heap.size + 1 + 1) (by first | omega | (simp; done) | (simp; omega) | fail)
    go_wp2_with fail
    refine (mayStrip_v _ _ _ _ _ _ _ HK.out _).mono ?_; rintro e w2 ⟨rfl, hb2⟩; have z_w2 := hb2.size; (try simp at z_w2); obtain ⟨y_w2_0_0, c_w2_0_0, f_w2_0_0, r_w2_0_0, t_w2_0_0, p_w2_0_0⟩ := bk hb2 (w.heap.size) (by first | omega | (simp; done) | (simp; omega) | fail); obtain ⟨y_w2_0_1, c_w2_0_1, f_w2_0_1, r_w2_0_1, t_w2_0_1, p_w2_0_1⟩ := bk hb2 (w.heap.size + 1) (by first | omega | (simp; done) | (simp; omega) | fail); obtain ⟨y_w2_0_2, c_w2_0_2, f_w2_0_2, r_w2_0_2, t_w2_0_2, p_w2_0_2⟩ := bk hb2 (w.heap.size + 1 + 1) (by first | omega | (simp; done) | (simp; omega) | fail)
    go_wp2_with fail
    refine (awake6_c _).mono ?_; rintro e w5 ⟨rfl, hb5⟩
    go_wp2
    go_ret
    exact ⟨rfl, (by repeat (first | with_reducible exact Below.refl _ _ | with_reducible exact Below_of_hid (by assumption) | with_reducible refine Below.drew ?_ | with_reducible refine below_drewN ?_ _ | (with_reducible refine Below_putRow ?_ ?hB _ _; case hB => (first | omega | (simp; done) | (simp; omega))) | (with_reducible refine Below.alloc ?_ ?hB _; case hB => (first | omega | (simp; done) | (simp; omega))) | (with_reducible refine Below.setCell ?_ ?hB _; case hB => (first | omega | (simp; done) | (simp; omega))) | (with_reducible refine Below.trans ?_ (Below.mono (by assumption) ?hB); case hB => (first | omega | (simp; done) | (simp; omega)))))⟩
  all_goals clear hm hk
  all_goals go_enter Try.func7, Try.ntmps7
  all_goals go_wp2_with fail
  all_goals (refine (awake6_c _).mono ?_; rintro e w5 ⟨rfl, hb5⟩; have z5 := hb5.size; (try simp at z5))
  all_goals go_wp2
  all_goals go_ret
  all_goals exact ⟨rfl, (by repeat (first | with_reducible exact Below.refl _ _ | with_reducible exact Below_of_hid (by assumption) | with_reducible refine Below.drew ?_ | with_reducible refine below_drewN ?_ _ | (with_reducible refine Below_putRow ?_ ?hB _ _; case hB => (first | omega | (simp; done) | (simp; omega))) | (with_reducible refine Below.alloc ?_ ?hB _; case hB => (first | omega | (simp; done) | (simp; omega))) | (with_reducible refine Below.setCell ?_ ?hB _; case hB => (first | omega | (simp; done) | (simp; omega))) | (with_reducible refine Below.trans ?_ (Below.mono (by assumption) ?hB); case hB => (first | omega | (simp; done) | (simp; omega)))))⟩
end Go.Proofs.Ytjfphfnfbgmlfaa
