/- The walk of StripAgain. -/
import Derived.Test.YtfohihjeemmedaaV9
import Derived.Deep.RegionHeld3
namespace Go.Proofs.Ytfohihjeemmedaa
open Go.RowKit

section
set_option maxRecDepth 100000
theorem arr_0 (n1 n2 n3 n4 n5 m1 m2 m3 m4 m5 : Int) (w : World) : Sem.run Try.prog (Instr.index 37 (.agg #[.int .i64 n1, .int .i64 n2, .int .i64 n3, .int .i64 n4, .int .i64 n5, .int .i64 m1, .int .i64 m2, .int .i64 m3, .int .i64 m4, .int .i64 m5, .int .i64 n1, .int .i64 n2, .int .i64 n3, .int .i64 n4, .int .i64 n5, .int .i64 m1, .int .i64 m2, .int .i64 m3, .int .i64 m4, .int .i64 m5]) (.int .i64 0)) w = .ok (elC n1 n2 n3 n4 n5) w := by rfl
theorem arr_1 (n1 n2 n3 n4 n5 m1 m2 m3 m4 m5 : Int) (w : World) : Sem.run Try.prog (Instr.index 37 (.agg #[.int .i64 n1, .int .i64 n2, .int .i64 n3, .int .i64 n4, .int .i64 n5, .int .i64 m1, .int .i64 m2, .int .i64 m3, .int .i64 m4, .int .i64 m5, .int .i64 n1, .int .i64 n2, .int .i64 n3, .int .i64 n4, .int .i64 n5, .int .i64 m1, .int .i64 m2, .int .i64 m3, .int .i64 m4, .int .i64 m5]) (.int .i64 1)) w = .ok (elC m1 m2 m3 m4 m5) w := by rfl
theorem arr_2 (n1 n2 n3 n4 n5 m1 m2 m3 m4 m5 : Int) (w : World) : Sem.run Try.prog (Instr.index 37 (.agg #[.int .i64 n1, .int .i64 n2, .int .i64 n3, .int .i64 n4, .int .i64 n5, .int .i64 m1, .int .i64 m2, .int .i64 m3, .int .i64 m4, .int .i64 m5, .int .i64 n1, .int .i64 n2, .int .i64 n3, .int .i64 n4, .int .i64 n5, .int .i64 m1, .int .i64 m2, .int .i64 m3, .int .i64 m4, .int .i64 m5]) (.int .i64 2)) w = .ok (elC n1 n2 n3 n4 n5) w := by rfl
theorem arr_3 (n1 n2 n3 n4 n5 m1 m2 m3 m4 m5 : Int) (w : World) : Sem.run Try.prog (Instr.index 37 (.agg #[.int .i64 n1, .int .i64 n2, .int .i64 n3, .int .i64 n4, .int .i64 n5, .int .i64 m1, .int .i64 m2, .int .i64 m3, .int .i64 m4, .int .i64 m5, .int .i64 n1, .int .i64 n2, .int .i64 n3, .int .i64 n4, .int .i64 n5, .int .i64 m1, .int .i64 m2, .int .i64 m3, .int .i64 m4, .int .i64 m5]) (.int .i64 3)) w = .ok (elC m1 m2 m3 m4 m5) w := by rfl
theorem par_0 (q1 q2 o1 o2 : Int) (w : World) : Sem.run Try.prog (Instr.index 38 (.agg #[.int .i64 q1, .int .i64 q2, .int .i64 o1, .int .i64 o2]) (.int .i64 0)) w = .ok (ptV q1 q2) w := by rfl
theorem par_1 (q1 q2 o1 o2 : Int) (w : World) : Sem.run Try.prog (Instr.index 38 (.agg #[.int .i64 q1, .int .i64 q2, .int .i64 o1, .int .i64 o2]) (.int .i64 1)) w = .ok (ptV o1 o2) w := by rfl
end
theorem bk_facts8 {w : World} {b : Nat} {c : Array Value} {t : TypeId} (h : Blk w b c t) :
    b < w.heap.size ∧ (∀ o, w.cell? ⟨b, o, none⟩ = c[o]?) ∧ (∀ o, w.frozen? ⟨b, o, none⟩ = false) ∧ w.row? b 0 c.size = some c :=
  ⟨h.lt, h.at, h.frozen, h.row?_all _ rfl⟩
/-- What one step of it says. -/
theorem again_step (e n : El) (p q p' q' wd D : Int) (he : e.has p q = true) (hn : n.has p' q' = true) (hw : 0 ≤ wd) (hD : rtI ((p - p') * (p - p') + (q - q') * (q - q')) = D) (hm : D + 1 + wd ≤ 4194304) {f : El} {k : Int} (hu : updE e n (max 0 (D - wd)) (D + 1 + wd) = (f, k)) :
    k = 0 ∧ f.has p q = true ∧ f.tr ≤ e.tr := by
  have a1 := int_sq_nonneg (p - p')
  have a2 := int_sq_nonneg (q - q')
  have r := rtI_spec ((p - p') * (p - p') + (q - q') * (q - q')) (by omega)
  rw [hD] at r
  have t : Told e n p q p' q' (max 0 (D - wd)) (D + 1 + wd) := by
    refine ⟨he, hn, ?_, ?_, (mayRange_iff _ _).2 (by omega)⟩
    · have := sq_le_sq' (a := max 0 (D - wd)) (b := D) (by omega) (by omega); omega
    · have := sq_le_sq' (a := D + 1) (b := D + 1 + wd) (by omega) (by omega); omega
  obtain ⟨o, h1, h2⟩ := upd_holds t
  rw [h1] at hu
  injection hu with h3 h4
  subst h3; subst h4
  refine ⟨rfl, h2, ?_⟩
  rcases upd_less ((El.has_iff _ _ _).1 he).1 ((El.has_iff _ _ _).1 hn).1 t.hr h1 with ⟨h5, -⟩ | ⟨-, -, h5⟩
  · cases h5
  · exact h5
theorem pts_near (e n : El) (p q p' q' : Int) (he : e.has p q = true) (hn : n.has p' q' = true) : (-33554432 ≤ p - p' ∧ p - p' ≤ 33554432) ∧ (-33554432 ≤ q - q' ∧ q - q' ≤ 33554432) := by
  have h1 := El.near e p q he
  have h2 := El.near n p' q' hn
  have m1 := ((El.may_iff e).1 ((El.has_iff _ _ _).1 he).1).1
  have m2 := ((El.may_iff n).1 ((El.has_iff _ _ _).1 hn).1).1
  omega
set_option maxRecDepth 100000 in
set_option maxHeartbeats 16000000 in
theorem stripAgain_c (x y a b d n1 n2 n3 n4 n5 m1 m2 m3 m4 m5 p1 p2 q1 q2 o1 o2 wide : Int) (w : World) :
    Calls Try.prog 4 #[elC x y a b d, elC n1 n2 n3 n4 n5, elC m1 m2 m3 m4 m5, ptV p1 p2, ptV q1 q2, ptV o1 o2, .int .i64 wide] w fun e w' => e = .returned (.bool true) ∧ Below w.heap.size w w' := by
  cases h1 : El.has ⟨x, y, a, b, d⟩ p1 p2 with
  | false =>
    have H1 := Lib.hid h1
    clear h1
    go_enter Try.func4, Try.ntmps4
    go_wp2_with fail
    refine (ellin_v _ _ _ _ _ _ _ _ H1.out _).mono ?_; rintro e w1 ⟨rfl, hb1⟩
    have z1 := hb1.size; (try simp at z1)
    go_wp2_with fail
    refine (awake8_c _).mono ?_; rintro e w9 ⟨rfl, hb9⟩
    have z9 := hb9.size
    go_wp2
    go_ret
    exact ⟨rfl, (by repeat (first | with_reducible exact Below.refl _ _ | with_reducible exact Below_of_hid (by assumption) | with_reducible refine Below.drew ?_ | with_reducible refine below_drewN ?_ _ | (with_reducible refine Below_putRow ?_ ?hB _ _; case hB => (first | omega | (simp; done) | (simp; omega))) | (with_reducible refine Below.alloc ?_ ?hB _; case hB => (first | omega | (simp; done) | (simp; omega))) | (with_reducible refine Below.setCell ?_ ?hB _; case hB => (first | omega | (simp; done) | (simp; omega))) | (with_reducible refine Below.trans ?_ (Below.mono (by assumption) ?hB); case hB => (first | omega | (simp; done) | (simp; omega)))))⟩
  | true =>
    cases h2 : El.has ⟨n1, n2, n3, n4, n5⟩ q1 q2 with
    | false =>
      have H1 := Lib.hid h1
      have H2 := Lib.hid h2
      clear h1 h2
      go_enter Try.func4, Try.ntmps4
      go_wp2_with fail
      refine (ellin_v _ _ _ _ _ _ _ _ H1.out _).mono ?_; rintro e w1 ⟨rfl, hb1⟩; have z_w1 := hb1.size; (try simp at z_w1); obtain ⟨y_w1_0_0, c_w1_0_0, f_w1_0_0, r_w1_0_0, t_w1_0_0, p_w1_0_0⟩ := bk hb1 (w.heap.size) (by first | omega | (simp; done) | (simp; omega) | fail); obtain ⟨y_w1_0_1, c_w1_0_1, f_w1_0_1, r_w1_0_1, t_w1_0_1, p_w1_0_1⟩ := bk hb1 (w.heap.size + 1) (by first | omega | (simp; done) | (simp; omega) | fail); obtain ⟨y_w1_0_2, c_w1_0_2, f_w1_0_2, r_w1_0_2, t_w1_0_2, p_w1_0_2⟩ := bk hb1 (w.heap.size + 1 + 1) (by first | omega | (simp; done) | (simp; omega) | fail); obtain ⟨y_w1_0_3, c_w1_0_3, f_w1_0_3, r_w1_0_3, t_w1_0_3, p_w1_0_3⟩ := bk hb1 (w.heap.size + 1 + 1 + 1) (by first | omega | (simp; done) | (simp; omega) | fail); obtain ⟨y_w1_0_4, c_w1_0_4, f_w1_0_4, r_w1_0_4, t_w1_0_4, p_w1_0_4⟩ := bk hb1 (w.heap.size + 1 + 1 + 1 + 1) (by first | omega | (simp; done) | (simp; omega) | fail); obtain ⟨y_w1_0_5, c_w1_0_5, f_w1_0_5, r_w1_0_5, t_w1_0_5, p_w1_0_5⟩ := bk hb1 (w.heap.size + 1 + 1 + 1 + 1 + 1) (by first | omega | (simp; done) | (simp; omega) | fail)
      go_wp2_with fail
      refine (ellin_v _ _ _ _ _ _ _ _ H2.out _).mono ?_; rintro e w2 ⟨rfl, hb2⟩
      have z2 := hb2.size
      go_wp2_with fail
      refine (awake8_c _).mono ?_; rintro e w9 ⟨rfl, hb9⟩
      have z9 := hb9.size
      go_wp2
      go_ret
      exact ⟨rfl, (by repeat (first | with_reducible exact Below.refl _ _ | with_reducible exact Below_of_hid (by assumption) | with_reducible refine Below.drew ?_ | with_reducible refine below_drewN ?_ _ | (with_reducible refine Below_putRow ?_ ?hB _ _; case hB => (first | omega | (simp; done) | (simp; omega))) | (with_reducible refine Below.alloc ?_ ?hB _; case hB => (first | omega | (simp; done) | (simp; omega))) | (with_reducible refine Below.setCell ?_ ?hB _; case hB => (first | omega | (simp; done) | (simp; omega))) | (with_reducible refine Below.trans ?_ (Below.mono (by assumption) ?hB); case hB => (first | omega | (simp; done) | (simp; omega)))))⟩
    | true =>
      cases h3 : El.has ⟨m1, m2, m3, m4, m5⟩ o1 o2 with
      | false =>
        have H1 := Lib.hid h1
        have H2 := Lib.hid h2
        have H3 := Lib.hid h3
        clear h1 h2 h3
        go_enter Try.func4, Try.ntmps4
        go_wp2_with fail
        refine (ellin_v _ _ _ _ _ _ _ _ H1.out _).mono ?_; rintro e w1 ⟨rfl, hb1⟩; have z_w1 := hb1.size; (try simp at z_w1); obtain ⟨y_w1_0_0, c_w1_0_0, f_w1_0_0, r_w1_0_0, t_w1_0_0, p_w1_0_0⟩ := bk hb1 (w.heap.size) (by first | omega | (simp; done) | (simp; omega) | fail); obtain ⟨y_w1_0_1, c_w1_0_1, f_w1_0_1, r_w1_0_1, t_w1_0_1, p_w1_0_1⟩ := bk hb1 (w.heap.size + 1) (by first | omega | (simp; done) | (simp; omega) | fail); obtain ⟨y_w1_0_2, c_w1_0_2, f_w1_0_2, r_w1_0_2, t_w1_0_2, p_w1_0_2⟩ := bk hb1 (w.heap.size + 1 + 1) (by first | omega | (simp; done) | (simp; omega) | fail); obtain ⟨y_w1_0_3, c_w1_0_3, f_w1_0_3, r_w1_0_3, t_w1_0_3, p_w1_0_3⟩ := bk hb1 (w.heap.size + 1 + 1 + 1) (by first | omega | (simp; done) | (simp; omega) | fail); obtain ⟨y_w1_0_4, c_w1_0_4, f_w1_0_4, r_w1_0_4, t_w1_0_4, p_w1_0_4⟩ := bk hb1 (w.heap.size + 1 + 1 + 1 + 1) (by first | omega | (simp; done) | (simp; omega) | fail); obtain ⟨y_w1_0_5, c_w1_0_5, f_w1_0_5, r_w1_0_5, t_w1_0_5, p_w1_0_5⟩ := bk hb1 (w.heap.size + 1 + 1 + 1 + 1 + 1) (by first | omega | (simp; done) | (simp; omega) | fail)
        go_wp2_with fail
        refine (ellin_v _ _ _ _ _ _ _ _ H2.out _).mono ?_; rintro e w2 ⟨rfl, hb2⟩; have z_w2 := hb2.size; (try simp at z_w2); obtain ⟨y_w2_0_0, c_w2_0_0, f_w2_0_0, r_w2_0_0, t_w2_0_0, p_w2_0_0⟩ := bk hb2 (w.heap.size) (by first | omega | (simp; done) | (simp; omega) | fail); obtain ⟨y_w2_0_1, c_w2_0_1, f_w2_0_1, r_w2_0_1, t_w2_0_1, p_w2_0_1⟩ := bk hb2 (w.heap.size + 1) (by first | omega | (simp; done) | (simp; omega) | fail); obtain ⟨y_w2_0_2, c_w2_0_2, f_w2_0_2, r_w2_0_2, t_w2_0_2, p_w2_0_2⟩ := bk hb2 (w.heap.size + 1 + 1) (by first | omega | (simp; done) | (simp; omega) | fail); obtain ⟨y_w2_0_3, c_w2_0_3, f_w2_0_3, r_w2_0_3, t_w2_0_3, p_w2_0_3⟩ := bk hb2 (w.heap.size + 1 + 1 + 1) (by first | omega | (simp; done) | (simp; omega) | fail); obtain ⟨y_w2_0_4, c_w2_0_4, f_w2_0_4, r_w2_0_4, t_w2_0_4, p_w2_0_4⟩ := bk hb2 (w.heap.size + 1 + 1 + 1 + 1) (by first | omega | (simp; done) | (simp; omega) | fail); obtain ⟨y_w2_0_5, c_w2_0_5, f_w2_0_5, r_w2_0_5, t_w2_0_5, p_w2_0_5⟩ := bk hb2 (w.heap.size + 1 + 1 + 1 + 1 + 1) (by first | omega | (simp; done) | (simp; omega) | fail)
        go_wp2_with fail
        refine (ellin_v _ _ _ _ _ _ _ _ H3.out _).mono ?_; rintro e w3 ⟨rfl, hb3⟩
        have z3 := hb3.size
        go_wp2_with fail
        refine (awake8_c _).mono ?_; rintro e w9 ⟨rfl, hb9⟩
        have z9 := hb9.size
        go_wp2
        go_ret
        exact ⟨rfl, (by repeat (first | with_reducible exact Below.refl _ _ | with_reducible exact Below_of_hid (by assumption) | with_reducible refine Below.drew ?_ | with_reducible refine below_drewN ?_ _ | (with_reducible refine Below_putRow ?_ ?hB _ _; case hB => (first | omega | (simp; done) | (simp; omega))) | (with_reducible refine Below.alloc ?_ ?hB _; case hB => (first | omega | (simp; done) | (simp; omega))) | (with_reducible refine Below.setCell ?_ ?hB _; case hB => (first | omega | (simp; done) | (simp; omega))) | (with_reducible refine Below.trans ?_ (Below.mono (by assumption) ?hB); case hB => (first | omega | (simp; done) | (simp; omega)))))⟩
      | true =>
        have H1 := Lib.hid h1
        have H2 := Lib.hid h2
        have H3 := Lib.hid h3
        obtain ⟨wd, hwd⟩ : ∃ K, wrap64 ((IntKind.u64.wrap wide).tmod 100) = K := ⟨_, rfl⟩
        have wd0 : 0 ≤ wd ∧ wd < 100 := by rw [← hwd]; exact rem_range wide 100 (by decide) (by decide)
        obtain ⟨wd1, wd2⟩ := wd0
        obtain ⟨t0, ht0⟩ : ∃ t, El.tr ⟨x, y, a, b, d⟩ = t := ⟨_, rfl⟩
        have T0 := Lib.hid ht0
        clear h1 h2 h3 ht0
        go_enter Try.func4, Try.ntmps4
        go_wp2_with fail
        refine (ellin_v _ _ _ _ _ _ _ _ H1.out _).mono ?_; rintro e w1 ⟨rfl, hb1⟩; have z_w1 := hb1.size; (try simp at z_w1); obtain ⟨y_w1_0_0, c_w1_0_0, f_w1_0_0, r_w1_0_0, t_w1_0_0, p_w1_0_0⟩ := bk hb1 (w.heap.size) (by first | omega | (simp; done) | (simp; omega) | fail); obtain ⟨y_w1_0_1, c_w1_0_1, f_w1_0_1, r_w1_0_1, t_w1_0_1, p_w1_0_1⟩ := bk hb1 (w.heap.size + 1) (by first | omega | (simp; done) | (simp; omega) | fail); obtain ⟨y_w1_0_2, c_w1_0_2, f_w1_0_2, r_w1_0_2, t_w1_0_2, p_w1_0_2⟩ := bk hb1 (w.heap.size + 1 + 1) (by first | omega | (simp; done) | (simp; omega) | fail); obtain ⟨y_w1_0_3, c_w1_0_3, f_w1_0_3, r_w1_0_3, t_w1_0_3, p_w1_0_3⟩ := bk hb1 (w.heap.size + 1 + 1 + 1) (by first | omega | (simp; done) | (simp; omega) | fail); obtain ⟨y_w1_0_4, c_w1_0_4, f_w1_0_4, r_w1_0_4, t_w1_0_4, p_w1_0_4⟩ := bk hb1 (w.heap.size + 1 + 1 + 1 + 1) (by first | omega | (simp; done) | (simp; omega) | fail); obtain ⟨y_w1_0_5, c_w1_0_5, f_w1_0_5, r_w1_0_5, t_w1_0_5, p_w1_0_5⟩ := bk hb1 (w.heap.size + 1 + 1 + 1 + 1 + 1) (by first | omega | (simp; done) | (simp; omega) | fail)
        go_wp2_with fail
        refine (ellin_v _ _ _ _ _ _ _ _ H2.out _).mono ?_; rintro e w2 ⟨rfl, hb2⟩; have z_w2 := hb2.size; (try simp at z_w2); obtain ⟨y_w2_0_0, c_w2_0_0, f_w2_0_0, r_w2_0_0, t_w2_0_0, p_w2_0_0⟩ := bk hb2 (w.heap.size) (by first | omega | (simp; done) | (simp; omega) | fail); obtain ⟨y_w2_0_1, c_w2_0_1, f_w2_0_1, r_w2_0_1, t_w2_0_1, p_w2_0_1⟩ := bk hb2 (w.heap.size + 1) (by first | omega | (simp; done) | (simp; omega) | fail); obtain ⟨y_w2_0_2, c_w2_0_2, f_w2_0_2, r_w2_0_2, t_w2_0_2, p_w2_0_2⟩ := bk hb2 (w.heap.size + 1 + 1) (by first | omega | (simp; done) | (simp; omega) | fail); obtain ⟨y_w2_0_3, c_w2_0_3, f_w2_0_3, r_w2_0_3, t_w2_0_3, p_w2_0_3⟩ := bk hb2 (w.heap.size + 1 + 1 + 1) (by first | omega | (simp; done) | (simp; omega) | fail); obtain ⟨y_w2_0_4, c_w2_0_4, f_w2_0_4, r_w2_0_4, t_w2_0_4, p_w2_0_4⟩ := bk hb2 (w.heap.size + 1 + 1 + 1 + 1) (by first | omega | (simp; done) | (simp; omega) | fail); obtain ⟨y_w2_0_5, c_w2_0_5, f_w2_0_5, r_w2_0_5, t_w2_0_5, p_w2_0_5⟩ := bk hb2 (w.heap.size + 1 + 1 + 1 + 1 + 1) (by first | omega | (simp; done) | (simp; omega) | fail)
        go_wp2_with fail
        refine (ellin_v _ _ _ _ _ _ _ _ H3.out _).mono ?_; rintro e w3 ⟨rfl, hb3⟩; have z_w3 := hb3.size; (try simp at z_w3); obtain ⟨y_w3_0_0, c_w3_0_0, f_w3_0_0, r_w3_0_0, t_w3_0_0, p_w3_0_0⟩ := bk hb3 (w.heap.size) (by first | omega | (simp; done) | (simp; omega) | fail); obtain ⟨y_w3_0_1, c_w3_0_1, f_w3_0_1, r_w3_0_1, t_w3_0_1, p_w3_0_1⟩ := bk hb3 (w.heap.size + 1) (by first | omega | (simp; done) | (simp; omega) | fail); obtain ⟨y_w3_0_2, c_w3_0_2, f_w3_0_2, r_w3_0_2, t_w3_0_2, p_w3_0_2⟩ := bk hb3 (w.heap.size + 1 + 1) (by first | omega | (simp; done) | (simp; omega) | fail); obtain ⟨y_w3_0_3, c_w3_0_3, f_w3_0_3, r_w3_0_3, t_w3_0_3, p_w3_0_3⟩ := bk hb3 (w.heap.size + 1 + 1 + 1) (by first | omega | (simp; done) | (simp; omega) | fail); obtain ⟨y_w3_0_4, c_w3_0_4, f_w3_0_4, r_w3_0_4, t_w3_0_4, p_w3_0_4⟩ := bk hb3 (w.heap.size + 1 + 1 + 1 + 1) (by first | omega | (simp; done) | (simp; omega) | fail); obtain ⟨y_w3_0_5, c_w3_0_5, f_w3_0_5, r_w3_0_5, t_w3_0_5, p_w3_0_5⟩ := bk hb3 (w.heap.size + 1 + 1 + 1 + 1 + 1) (by first | omega | (simp; done) | (simp; omega) | fail)
        go_wp2_with fail
        refine (trace_v _ _ _ _ _ _ T0.out _).mono ?_; rintro e w4 ⟨rfl, hb4⟩; have z_w4 := hb4.size; (try simp at z_w4); obtain ⟨y_w4_0_0, c_w4_0_0, f_w4_0_0, r_w4_0_0, t_w4_0_0, p_w4_0_0⟩ := bk hb4 (w.heap.size) (by first | omega | (simp; done) | (simp; omega) | fail); obtain ⟨y_w4_0_1, c_w4_0_1, f_w4_0_1, r_w4_0_1, t_w4_0_1, p_w4_0_1⟩ := bk hb4 (w.heap.size + 1) (by first | omega | (simp; done) | (simp; omega) | fail); obtain ⟨y_w4_0_2, c_w4_0_2, f_w4_0_2, r_w4_0_2, t_w4_0_2, p_w4_0_2⟩ := bk hb4 (w.heap.size + 1 + 1) (by first | omega | (simp; done) | (simp; omega) | fail); obtain ⟨y_w4_0_3, c_w4_0_3, f_w4_0_3, r_w4_0_3, t_w4_0_3, p_w4_0_3⟩ := bk hb4 (w.heap.size + 1 + 1 + 1) (by first | omega | (simp; done) | (simp; omega) | fail); obtain ⟨y_w4_0_4, c_w4_0_4, f_w4_0_4, r_w4_0_4, t_w4_0_4, p_w4_0_4⟩ := bk hb4 (w.heap.size + 1 + 1 + 1 + 1) (by first | omega | (simp; done) | (simp; omega) | fail); obtain ⟨y_w4_0_5, c_w4_0_5, f_w4_0_5, r_w4_0_5, t_w4_0_5, p_w4_0_5⟩ := bk hb4 (w.heap.size + 1 + 1 + 1 + 1 + 1) (by first | omega | (simp; done) | (simp; omega) | fail)
        have B0 : Hid (Blk w4 (w.heap.size) #[.int .i64 x, .int .i64 y, .int .i64 a, .int .i64 b, .int .i64 d] 27) := ((((((((((Blk.new' w _ _ rfl).alloc _).alloc _).alloc _).alloc _).alloc _).keep hb1).keep hb2).keep hb3).keep hb4)
        have B1 : Hid (Blk w4 (w.heap.size + 1) #[.int .i64 n1, .int .i64 n2, .int .i64 n3, .int .i64 n4, .int .i64 n5] 27) := (((((((((Blk.new' (w.alloc _) _ _ (by simp)).alloc _).alloc _).alloc _).alloc _).keep hb1).keep hb2).keep hb3).keep hb4)
        have B2 : Hid (Blk w4 (w.heap.size + 1 + 1) #[.int .i64 m1, .int .i64 m2, .int .i64 m3, .int .i64 m4, .int .i64 m5] 27) := ((((((((Blk.new' ((w.alloc _).alloc _) _ _ (by simp)).alloc _).alloc _).alloc _).keep hb1).keep hb2).keep hb3).keep hb4)
        have B3 : Hid (Blk w4 (w.heap.size + 1 + 1 + 1) #[.int .i64 p1, .int .i64 p2] 23) := (((((((Blk.new' (((w.alloc _).alloc _).alloc _) _ _ (by simp)).alloc _).alloc _).keep hb1).keep hb2).keep hb3).keep hb4)
        have B4 : Hid (Blk w4 (w.heap.size + 1 + 1 + 1 + 1) #[.int .i64 q1, .int .i64 q2] 23) := ((((((Blk.new' ((((w.alloc _).alloc _).alloc _).alloc _) _ _ (by simp)).alloc _).keep hb1).keep hb2).keep hb3).keep hb4)
        have B5 : Hid (Blk w4 (w.heap.size + 1 + 1 + 1 + 1 + 1) #[.int .i64 o1, .int .i64 o2] 23) := (((((Blk.new' (((((w.alloc _).alloc _).alloc _).alloc _).alloc _) _ _ (by simp)).keep hb1).keep hb2).keep hb3).keep hb4)
        have HB : Hid (Below w.heap.size w w4) := (show Below _ _ _ from (by repeat (first | with_reducible exact Below.refl _ _ | with_reducible exact Below_of_hid (by assumption) | with_reducible refine Below.drew ?_ | with_reducible refine below_drewN ?_ _ | (with_reducible refine Below_putRow ?_ ?hB _ _; case hB => (first | omega | (simp; done) | (simp; omega))) | (with_reducible refine Below.alloc ?_ ?hB _; case hB => (first | omega | (simp; done) | (simp; omega))) | (with_reducible refine Below.setCell ?_ ?hB _; case hB => (first | omega | (simp; done) | (simp; omega))) | (with_reducible refine Below.trans ?_ (Below.mono (by assumption) ?hB); case hB => (first | omega | (simp; done) | (simp; omega))))))
        go_wp2_with fail
        (try simp only [hwd])
        clear z_w4 y_w4_0_0 c_w4_0_0 f_w4_0_0 r_w4_0_0 t_w4_0_0 p_w4_0_0 y_w4_0_1 c_w4_0_1 f_w4_0_1 r_w4_0_1 t_w4_0_1 p_w4_0_1 y_w4_0_2 c_w4_0_2 f_w4_0_2 r_w4_0_2 t_w4_0_2 p_w4_0_2 y_w4_0_3 c_w4_0_3 f_w4_0_3 r_w4_0_3 t_w4_0_3 p_w4_0_3 y_w4_0_4 c_w4_0_4 f_w4_0_4 r_w4_0_4 t_w4_0_4 p_w4_0_4 y_w4_0_5 c_w4_0_5 f_w4_0_5 r_w4_0_5 t_w4_0_5 p_w4_0_5
        clear z_w3 y_w3_0_0 c_w3_0_0 f_w3_0_0 r_w3_0_0 t_w3_0_0 p_w3_0_0 y_w3_0_1 c_w3_0_1 f_w3_0_1 r_w3_0_1 t_w3_0_1 p_w3_0_1 y_w3_0_2 c_w3_0_2 f_w3_0_2 r_w3_0_2 t_w3_0_2 p_w3_0_2 y_w3_0_3 c_w3_0_3 f_w3_0_3 r_w3_0_3 t_w3_0_3 p_w3_0_3 y_w3_0_4 c_w3_0_4 f_w3_0_4 r_w3_0_4 t_w3_0_4 p_w3_0_4 y_w3_0_5 c_w3_0_5 f_w3_0_5 r_w3_0_5 t_w3_0_5 p_w3_0_5
        clear z_w2 y_w2_0_0 c_w2_0_0 f_w2_0_0 r_w2_0_0 t_w2_0_0 p_w2_0_0 y_w2_0_1 c_w2_0_1 f_w2_0_1 r_w2_0_1 t_w2_0_1 p_w2_0_1 y_w2_0_2 c_w2_0_2 f_w2_0_2 r_w2_0_2 t_w2_0_2 p_w2_0_2 y_w2_0_3 c_w2_0_3 f_w2_0_3 r_w2_0_3 t_w2_0_3 p_w2_0_3 y_w2_0_4 c_w2_0_4 f_w2_0_4 r_w2_0_4 t_w2_0_4 p_w2_0_4 y_w2_0_5 c_w2_0_5 f_w2_0_5 r_w2_0_5 t_w2_0_5 p_w2_0_5
        clear z_w1 y_w1_0_0 c_w1_0_0 f_w1_0_0 r_w1_0_0 t_w1_0_0 p_w1_0_0 y_w1_0_1 c_w1_0_1 f_w1_0_1 r_w1_0_1 t_w1_0_1 p_w1_0_1 y_w1_0_2 c_w1_0_2 f_w1_0_2 r_w1_0_2 t_w1_0_2 p_w1_0_2 y_w1_0_3 c_w1_0_3 f_w1_0_3 r_w1_0_3 t_w1_0_3 p_w1_0_3 y_w1_0_4 c_w1_0_4 f_w1_0_4 r_w1_0_4 t_w1_0_4 p_w1_0_4 y_w1_0_5 c_w1_0_5 f_w1_0_5 r_w1_0_5 t_w1_0_5 p_w1_0_5
        clear hb1 hb2 hb3 hb4 hwd
        go_loopw [16, 51] (fun tt ti wr => ∃ (k t ex ey ea eb ed : Int), (k = 0 ∨ k = 1 ∨ k = 2 ∨ k = 3 ∨ k = 4) ∧ ti = .int .i64 k ∧ tt = .int .i64 t ∧ Hid (El.has ⟨ex, ey, ea, eb, ed⟩ p1 p2 = true) ∧ Hid (El.tr ⟨ex, ey, ea, eb, ed⟩ = t) ∧
          Hid (Blk wr (w.heap.size) #[.int .i64 ex, .int .i64 ey, .int .i64 ea, .int .i64 eb, .int .i64 ed] 27) ∧ Hid (Blk wr (w.heap.size + 1 + 1 + 1) #[.int .i64 p1, .int .i64 p2] 23) ∧ Hid (Blk wr (w.heap.size + 1 + 1 + 1 + 1) #[.int .i64 q1, .int .i64 q2] 23) ∧ Hid (Blk wr (w.heap.size + 1 + 1 + 1 + 1 + 1) #[.int .i64 o1, .int .i64 o2] 23) ∧ Hid (Below w.heap.size w wr)) (fun _ ti _ => 4 - (intOf ti).toNat)
        case atStart =>
          exact ⟨0, t0, x, y, a, b, d, .inl rfl, rfl, rfl, H1, T0, B0, B3, B4, B5, HB⟩
        case round =>
          obtain ⟨k, t, ex, ey, ea, eb, ed, hk, rfl, rfl, HE, HT, C0, C3, C4, C5, HC⟩ := hrel
          clear B0 B1 B2 B3 B4 B5 HB T0 H1
          obtain ⟨y0, c0, f0, -⟩ := bk_facts8 C0.out
          obtain ⟨y3, c3, f3, -⟩ := bk_facts8 C3.out
          obtain ⟨y4, c4, f4, -⟩ := bk_facts8 C4.out
          obtain ⟨y5, c5, f5, -⟩ := bk_facts8 C5.out
          have hbc := HC.out
          have sc := hbc.size
          have v0 : w.heap.size < wr.heap.size := by omega
          have v0' : ¬ (w.heap.size = wr.heap.size) := by omega
          have v1 : w.heap.size + 1 < wr.heap.size := by omega
          have v1' : ¬ (w.heap.size + 1 = wr.heap.size) := by omega
          have v2 : w.heap.size + 1 + 1 < wr.heap.size := by omega
          have v2' : ¬ (w.heap.size + 1 + 1 = wr.heap.size) := by omega
          have v3 : w.heap.size + 1 + 1 + 1 < wr.heap.size := by omega
          have v3' : ¬ (w.heap.size + 1 + 1 + 1 = wr.heap.size) := by omega
          have v4 : w.heap.size + 1 + 1 + 1 + 1 < wr.heap.size := by omega
          have v4' : ¬ (w.heap.size + 1 + 1 + 1 + 1 = wr.heap.size) := by omega
          have v5 : w.heap.size + 1 + 1 + 1 + 1 + 1 < wr.heap.size := by omega
          have v5' : ¬ (w.heap.size + 1 + 1 + 1 + 1 + 1 = wr.heap.size) := by omega
          rcases hk with rfl | rfl | rfl | rfl | rfl
          · have ia := fun w => arr_0 n1 n2 n3 n4 n5 m1 m2 m3 m4 m5 w
            have ip := fun w => par_0 q1 q2 o1 o2 w
            obtain ⟨D, hD⟩ : ∃ D, rtI ((p1 - q1) * (p1 - q1) + (p2 - q2) * (p2 - q2)) = D := ⟨_, rfl⟩
            have nr := pts_near _ _ _ _ _ _ HE.out H2.out
            have D0 : 0 ≤ D ∧ D ≤ 67108864 := by
              have s1 := sqb (p1 - q1) 33554432 nr.1.1 nr.1.2
              have s2 := sqb (p2 - q2) 33554432 nr.2.1 nr.2.2
              have r := rtI_spec ((p1 - q1) * (p1 - q1) + (p2 - q2) * (p2 - q2)) (by omega)
              rw [hD] at r
              exact ⟨r.1, le_of_sq (by decide) (by omega)⟩
            obtain ⟨D1, D2⟩ := D0
            have DC : Hid (∀ w, Calls Try.prog 15 #[ptV p1 p2, ptV q1 q2] w fun e w' => e = .returned (.int .i64 D) ∧ Below w.heap.size w w') := show ∀ w, _ from by intro w; have := dist_c p1 p2 q1 q2 nr.1 nr.2 w; rw [hD] at this; exact this
            have wa : wrap64 (D + 1) = D + 1 := by unfold wrap64; omega
            have wb : wrap64 (D + 1 + wd) = D + 1 + wd := by unfold wrap64; omega
            have wc : wrap64 (D - wd) = D - wd := by unfold wrap64; omega
            have hD2 := Lib.hid hD
            clear nr hD
            go_wp2_with fail
            refine (DC.out _).mono ?_; rintro e w1 ⟨rfl, hb1⟩; have z_w1 := hb1.size; (try simp at z_w1); obtain ⟨y_w1_0_0, c_w1_0_0, f_w1_0_0, r_w1_0_0, t_w1_0_0, p_w1_0_0⟩ := bk hb1 (w.heap.size) (by first | omega | (simp; done) | (simp; omega) | fail); obtain ⟨y_w1_0_1, c_w1_0_1, f_w1_0_1, r_w1_0_1, t_w1_0_1, p_w1_0_1⟩ := bk hb1 (w.heap.size + 1) (by first | omega | (simp; done) | (simp; omega) | fail); obtain ⟨y_w1_0_2, c_w1_0_2, f_w1_0_2, r_w1_0_2, t_w1_0_2, p_w1_0_2⟩ := bk hb1 (w.heap.size + 1 + 1) (by first | omega | (simp; done) | (simp; omega) | fail); obtain ⟨y_w1_0_3, c_w1_0_3, f_w1_0_3, r_w1_0_3, t_w1_0_3, p_w1_0_3⟩ := bk hb1 (w.heap.size + 1 + 1 + 1) (by first | omega | (simp; done) | (simp; omega) | fail); obtain ⟨y_w1_0_4, c_w1_0_4, f_w1_0_4, r_w1_0_4, t_w1_0_4, p_w1_0_4⟩ := bk hb1 (w.heap.size + 1 + 1 + 1 + 1) (by first | omega | (simp; done) | (simp; omega) | fail); obtain ⟨y_w1_0_5, c_w1_0_5, f_w1_0_5, r_w1_0_5, t_w1_0_5, p_w1_0_5⟩ := bk hb1 (w.heap.size + 1 + 1 + 1 + 1 + 1) (by first | omega | (simp; done) | (simp; omega) | fail); obtain ⟨y_w1_1_0, c_w1_1_0, f_w1_1_0, r_w1_1_0, t_w1_1_0, p_w1_1_0⟩ := bk hb1 (wr.heap.size) (by first | omega | (simp; done) | (simp; omega) | fail); obtain ⟨y_w1_1_1, c_w1_1_1, f_w1_1_1, r_w1_1_1, t_w1_1_1, p_w1_1_1⟩ := bk hb1 (wr.heap.size + 1) (by first | omega | (simp; done) | (simp; omega) | fail)
            by_cases hm : 4194304 < D + 1 + wd
            · go_wp2_with fail
              refine (awake8_c _).mono ?_; rintro e w9 ⟨rfl, hb9⟩
              have z9 := hb9.size
              go_wp2
              go_ret
              exact ⟨rfl, (by repeat (first | with_reducible exact Below.refl _ _ | with_reducible exact Below_of_hid (by assumption) | with_reducible refine Below.drew ?_ | with_reducible refine below_drewN ?_ _ | (with_reducible refine Below_putRow ?_ ?hB _ _; case hB => (first | omega | (simp; done) | (simp; omega))) | (with_reducible refine Below.alloc ?_ ?hB _; case hB => (first | omega | (simp; done) | (simp; omega))) | (with_reducible refine Below.setCell ?_ ?hB _; case hB => (first | omega | (simp; done) | (simp; omega))) | (with_reducible refine Below.trans ?_ (Below.mono (by assumption) ?hB); case hB => (first | omega | (simp; done) | (simp; omega)))))⟩
            · obtain ⟨⟨fx, fy, fa, fb, fd⟩, kf, hu⟩ : ∃ o k, updE ⟨ex, ey, ea, eb, ed⟩ ⟨n1, n2, n3, n4, n5⟩ (max 0 (D - wd)) (D + 1 + wd) = (o, k) := ⟨_, _, rfl⟩
              obtain ⟨rfl, hf, ht⟩ := again_step _ _ _ _ _ _ wd D HE.out H2.out wd1 hD2.out (by omega) hu
              obtain ⟨tf, htf⟩ : ∃ t, El.tr ⟨fx, fy, fa, fb, fd⟩ = t := ⟨_, rfl⟩
              rw [htf, HT.out] at ht
              have HU := Lib.hid hu
              have HF := Lib.hid hf
              have TF := Lib.hid htf
              have nt : ¬ t < tf := by omega
              clear hu hf htf
              go_wp2_with fail
              refine (upd_v _ _ _ _ _ _ _ _ _ _ _ _ _ _ _ _ _ _ HU.out _).mono ?_; rintro e w2 ⟨rfl, hb2⟩; have z_w2 := hb2.size; (try simp at z_w2); obtain ⟨y_w2_0_0, c_w2_0_0, f_w2_0_0, r_w2_0_0, t_w2_0_0, p_w2_0_0⟩ := bk hb2 (w.heap.size) (by first | omega | (simp; done) | (simp; omega) | fail); obtain ⟨y_w2_0_1, c_w2_0_1, f_w2_0_1, r_w2_0_1, t_w2_0_1, p_w2_0_1⟩ := bk hb2 (w.heap.size + 1) (by first | omega | (simp; done) | (simp; omega) | fail); obtain ⟨y_w2_0_2, c_w2_0_2, f_w2_0_2, r_w2_0_2, t_w2_0_2, p_w2_0_2⟩ := bk hb2 (w.heap.size + 1 + 1) (by first | omega | (simp; done) | (simp; omega) | fail); obtain ⟨y_w2_0_3, c_w2_0_3, f_w2_0_3, r_w2_0_3, t_w2_0_3, p_w2_0_3⟩ := bk hb2 (w.heap.size + 1 + 1 + 1) (by first | omega | (simp; done) | (simp; omega) | fail); obtain ⟨y_w2_0_4, c_w2_0_4, f_w2_0_4, r_w2_0_4, t_w2_0_4, p_w2_0_4⟩ := bk hb2 (w.heap.size + 1 + 1 + 1 + 1) (by first | omega | (simp; done) | (simp; omega) | fail); obtain ⟨y_w2_0_5, c_w2_0_5, f_w2_0_5, r_w2_0_5, t_w2_0_5, p_w2_0_5⟩ := bk hb2 (w.heap.size + 1 + 1 + 1 + 1 + 1) (by first | omega | (simp; done) | (simp; omega) | fail); obtain ⟨y_w2_1_0, c_w2_1_0, f_w2_1_0, r_w2_1_0, t_w2_1_0, p_w2_1_0⟩ := bk hb2 (wr.heap.size) (by first | omega | (simp; done) | (simp; omega) | fail); obtain ⟨y_w2_1_1, c_w2_1_1, f_w2_1_1, r_w2_1_1, t_w2_1_1, p_w2_1_1⟩ := bk hb2 (wr.heap.size + 1) (by first | omega | (simp; done) | (simp; omega) | fail)
              go_wp2_with fail
              refine (ellin_v _ _ _ _ _ _ _ _ HF.out _).mono ?_; rintro e w3 ⟨rfl, hb3⟩; have z_w3 := hb3.size; (try simp at z_w3); obtain ⟨y_w3_0_0, c_w3_0_0, f_w3_0_0, r_w3_0_0, t_w3_0_0, p_w3_0_0⟩ := bk hb3 (w.heap.size) (by first | omega | (simp; done) | (simp; omega) | fail); obtain ⟨y_w3_0_1, c_w3_0_1, f_w3_0_1, r_w3_0_1, t_w3_0_1, p_w3_0_1⟩ := bk hb3 (w.heap.size + 1) (by first | omega | (simp; done) | (simp; omega) | fail); obtain ⟨y_w3_0_2, c_w3_0_2, f_w3_0_2, r_w3_0_2, t_w3_0_2, p_w3_0_2⟩ := bk hb3 (w.heap.size + 1 + 1) (by first | omega | (simp; done) | (simp; omega) | fail); obtain ⟨y_w3_0_3, c_w3_0_3, f_w3_0_3, r_w3_0_3, t_w3_0_3, p_w3_0_3⟩ := bk hb3 (w.heap.size + 1 + 1 + 1) (by first | omega | (simp; done) | (simp; omega) | fail); obtain ⟨y_w3_0_4, c_w3_0_4, f_w3_0_4, r_w3_0_4, t_w3_0_4, p_w3_0_4⟩ := bk hb3 (w.heap.size + 1 + 1 + 1 + 1) (by first | omega | (simp; done) | (simp; omega) | fail); obtain ⟨y_w3_0_5, c_w3_0_5, f_w3_0_5, r_w3_0_5, t_w3_0_5, p_w3_0_5⟩ := bk hb3 (w.heap.size + 1 + 1 + 1 + 1 + 1) (by first | omega | (simp; done) | (simp; omega) | fail); obtain ⟨y_w3_1_0, c_w3_1_0, f_w3_1_0, r_w3_1_0, t_w3_1_0, p_w3_1_0⟩ := bk hb3 (w2.heap.size) (by first | omega | (simp; done) | (simp; omega) | fail)
              go_wp2_with fail
              refine (trace_v _ _ _ _ _ _ TF.out _).mono ?_; rintro e w4 ⟨rfl, hb4⟩; have z_w4 := hb4.size; (try simp at z_w4); obtain ⟨y_w4_0_0, c_w4_0_0, f_w4_0_0, r_w4_0_0, t_w4_0_0, p_w4_0_0⟩ := bk hb4 (w.heap.size) (by first | omega | (simp; done) | (simp; omega) | fail); obtain ⟨y_w4_0_1, c_w4_0_1, f_w4_0_1, r_w4_0_1, t_w4_0_1, p_w4_0_1⟩ := bk hb4 (w.heap.size + 1) (by first | omega | (simp; done) | (simp; omega) | fail); obtain ⟨y_w4_0_2, c_w4_0_2, f_w4_0_2, r_w4_0_2, t_w4_0_2, p_w4_0_2⟩ := bk hb4 (w.heap.size + 1 + 1) (by first | omega | (simp; done) | (simp; omega) | fail); obtain ⟨y_w4_0_3, c_w4_0_3, f_w4_0_3, r_w4_0_3, t_w4_0_3, p_w4_0_3⟩ := bk hb4 (w.heap.size + 1 + 1 + 1) (by first | omega | (simp; done) | (simp; omega) | fail); obtain ⟨y_w4_0_4, c_w4_0_4, f_w4_0_4, r_w4_0_4, t_w4_0_4, p_w4_0_4⟩ := bk hb4 (w.heap.size + 1 + 1 + 1 + 1) (by first | omega | (simp; done) | (simp; omega) | fail); obtain ⟨y_w4_0_5, c_w4_0_5, f_w4_0_5, r_w4_0_5, t_w4_0_5, p_w4_0_5⟩ := bk hb4 (w.heap.size + 1 + 1 + 1 + 1 + 1) (by first | omega | (simp; done) | (simp; omega) | fail); obtain ⟨y_w4_1_0, c_w4_1_0, f_w4_1_0, r_w4_1_0, t_w4_1_0, p_w4_1_0⟩ := bk hb4 (w2.heap.size) (by first | omega | (simp; done) | (simp; omega) | fail)
              have G0 : Hid (Blk w4 w.heap.size #[.int .i64 ex, .int .i64 ey, .int .i64 ea, .int .i64 eb, .int .i64 ed] 27) := (((((((C0.out.alloc _).alloc _).keep hb1).keep hb2).alloc _).keep hb3).keep hb4)
              have G3 : Hid (Blk w4 (w.heap.size + 1 + 1 + 1) #[.int .i64 p1, .int .i64 p2] 23) := (((((((C3.out.alloc _).alloc _).keep hb1).keep hb2).alloc _).keep hb3).keep hb4)
              have G4 : Hid (Blk w4 (w.heap.size + 1 + 1 + 1 + 1) #[.int .i64 q1, .int .i64 q2] 23) := (((((((C4.out.alloc _).alloc _).keep hb1).keep hb2).alloc _).keep hb3).keep hb4)
              have G5 : Hid (Blk w4 (w.heap.size + 1 + 1 + 1 + 1 + 1) #[.int .i64 o1, .int .i64 o2] 23) := (((((((C5.out.alloc _).alloc _).keep hb1).keep hb2).alloc _).keep hb3).keep hb4)
              have GF : Hid (Blk w4 w2.heap.size #[.int .i64 fx, .int .i64 fy, .int .i64 fa, .int .i64 fb, .int .i64 fd] 27) := ((Blk.new w2 _ _).keep hb3).keep hb4
              have HG : Hid (Below w.heap.size w w4) := (show Below _ _ _ from (by repeat (first | with_reducible exact Below.refl _ _ | with_reducible exact Below_of_hid (by assumption) | with_reducible refine Below.drew ?_ | with_reducible refine below_drewN ?_ _ | (with_reducible refine Below_putRow ?_ ?hB _ _; case hB => (first | omega | (simp; done) | (simp; omega))) | (with_reducible refine Below.alloc ?_ ?hB _; case hB => (first | omega | (simp; done) | (simp; omega))) | (with_reducible refine Below.setCell ?_ ?hB _; case hB => (first | omega | (simp; done) | (simp; omega))) | (with_reducible refine Below.trans ?_ (Below.mono (by assumption) ?hB); case hB => (first | omega | (simp; done) | (simp; omega))))))
              go_wp2_with fail
              have ne2 : ¬ (w2.heap.size = w.heap.size) := by omega
              clear z_w4 y_w4_0_0 c_w4_0_0 f_w4_0_0 r_w4_0_0 t_w4_0_0 p_w4_0_0 y_w4_0_1 c_w4_0_1 f_w4_0_1 r_w4_0_1 t_w4_0_1 p_w4_0_1 y_w4_0_2 c_w4_0_2 f_w4_0_2 r_w4_0_2 t_w4_0_2 p_w4_0_2 y_w4_0_3 c_w4_0_3 f_w4_0_3 r_w4_0_3 t_w4_0_3 p_w4_0_3 y_w4_0_4 c_w4_0_4 f_w4_0_4 r_w4_0_4 t_w4_0_4 p_w4_0_4 y_w4_0_5 c_w4_0_5 f_w4_0_5 r_w4_0_5 t_w4_0_5 p_w4_0_5 y_w4_1_0 c_w4_1_0 f_w4_1_0 r_w4_1_0 t_w4_1_0 p_w4_1_0
              clear z_w3 y_w3_0_0 c_w3_0_0 f_w3_0_0 r_w3_0_0 t_w3_0_0 p_w3_0_0 y_w3_0_1 c_w3_0_1 f_w3_0_1 r_w3_0_1 t_w3_0_1 p_w3_0_1 y_w3_0_2 c_w3_0_2 f_w3_0_2 r_w3_0_2 t_w3_0_2 p_w3_0_2 y_w3_0_3 c_w3_0_3 f_w3_0_3 r_w3_0_3 t_w3_0_3 p_w3_0_3 y_w3_0_4 c_w3_0_4 f_w3_0_4 r_w3_0_4 t_w3_0_4 p_w3_0_4 y_w3_0_5 c_w3_0_5 f_w3_0_5 r_w3_0_5 t_w3_0_5 p_w3_0_5 y_w3_1_0 c_w3_1_0 f_w3_1_0 r_w3_1_0 t_w3_1_0 p_w3_1_0
              clear z_w2 y_w2_0_0 c_w2_0_0 f_w2_0_0 r_w2_0_0 t_w2_0_0 p_w2_0_0 y_w2_0_1 c_w2_0_1 f_w2_0_1 r_w2_0_1 t_w2_0_1 p_w2_0_1 y_w2_0_2 c_w2_0_2 f_w2_0_2 r_w2_0_2 t_w2_0_2 p_w2_0_2 y_w2_0_3 c_w2_0_3 f_w2_0_3 r_w2_0_3 t_w2_0_3 p_w2_0_3 y_w2_0_4 c_w2_0_4 f_w2_0_4 r_w2_0_4 t_w2_0_4 p_w2_0_4 y_w2_0_5 c_w2_0_5 f_w2_0_5 r_w2_0_5 t_w2_0_5 p_w2_0_5 y_w2_1_0 c_w2_1_0 f_w2_1_0 r_w2_1_0 t_w2_1_0 p_w2_1_0 y_w2_1_1 c_w2_1_1 f_w2_1_1 r_w2_1_1 t_w2_1_1 p_w2_1_1
              clear z_w1 y_w1_0_0 c_w1_0_0 f_w1_0_0 r_w1_0_0 t_w1_0_0 p_w1_0_0 y_w1_0_1 c_w1_0_1 f_w1_0_1 r_w1_0_1 t_w1_0_1 p_w1_0_1 y_w1_0_2 c_w1_0_2 f_w1_0_2 r_w1_0_2 t_w1_0_2 p_w1_0_2 y_w1_0_3 c_w1_0_3 f_w1_0_3 r_w1_0_3 t_w1_0_3 p_w1_0_3 y_w1_0_4 c_w1_0_4 f_w1_0_4 r_w1_0_4 t_w1_0_4 p_w1_0_4 y_w1_0_5 c_w1_0_5 f_w1_0_5 r_w1_0_5 t_w1_0_5 p_w1_0_5 y_w1_1_0 c_w1_1_0 f_w1_1_0 r_w1_1_0 t_w1_1_0 p_w1_1_0 y_w1_1_1 c_w1_1_1 f_w1_1_1 r_w1_1_1 t_w1_1_1 p_w1_1_1
              clear hb1 hb2 hb3 hb4 C0 C3 C4 C5 HC c0 f0 y0 c3 f3 y3 c4 f4 y4 c5 f5 y5 hbc
              obtain ⟨y0, c0, f0, -⟩ := bk_facts8 G0.out
              have XX : Blk w4 w2.heap.size #[.int .i64 fx, .int .i64 fy, .int .i64 fa, .int .i64 fb, .int .i64 fd] 27 := GF.out
              have rr := el_cells5 XX
              go_region_held3 (fun w' => w'.cell? ⟨w2.heap.size, 0, none⟩ = some (.int .i64 fx) ∧ w'.cell? ⟨w2.heap.size, 1, none⟩ = some (.int .i64 fy) ∧ w'.cell? ⟨w2.heap.size, 2, none⟩ = some (.int .i64 fa) ∧ w'.cell? ⟨w2.heap.size, 3, none⟩ = some (.int .i64 fb) ∧ w'.cell? ⟨w2.heap.size, 4, none⟩ = some (.int .i64 fd)) (first | with_reducible exact rr | (with_reducible refine el_cells5 (t := 27) ?_; (repeat (first | with_reducible exact XX | with_reducible refine Blk.drew ?_ | with_reducible refine Blk.alloc ?_ _ | (with_reducible refine Blk.setCell_other ?_ ?hB _; case hB => exact ne2))); done) | go_simp)
                (first | (go_at_call 13; refine (trace_v _ _ _ _ _ _ TF.out _).mono ?_; rintro e w5 ⟨rfl, hb5⟩; have XX : Blk w5 w2.heap.size #[.int .i64 fx, .int .i64 fy, .int .i64 fa, .int .i64 fb, .int .i64 fd] 27 := (by (with_reducible refine Blk.keep ?_ hb5); (repeat (first | with_reducible exact XX | with_reducible refine Blk.drew ?_ | with_reducible refine Blk.alloc ?_ _))); have rr := el_cells5 XX; have G9 : Blk w5 w.heap.size #[.int .i64 ex, .int .i64 ey, .int .i64 ea, .int .i64 eb, .int .i64 ed] 27 := Blk.keep (Blk.drew G0.out) hb5; obtain ⟨y6, c6, f6, -⟩ := bk_facts8 G9))
              have K3 := Blk.keep (Blk.drew G3.out) hb5
              have K4 := Blk.keep (Blk.drew G4.out) hb5
              have K5 := Blk.keep (Blk.drew G5.out) hb5
              have hbg := HG.out
              have sg := hbg.size
              have s5 := hb5.size
              go_wp2_with fail
              go_roundw
              case rel =>
                refine ⟨1, tf, fx, fy, fa, fb, fd, by decide, by go_num, rfl, HF, TF, ?_, ?_, ?_, ?_, ?_⟩
                · show Blk _ _ _ _
                  apply Blk.of_eq
                  · repeat (first | with_reducible exact G9 | with_reducible apply Blk.drew | with_reducible apply Blk.setCell_same)
                  · rfl
                · exact (show Blk _ _ _ _ from (by repeat (first | with_reducible exact K3 | with_reducible refine Blk.drew ?_ | (with_reducible refine Blk.setCell_other ?_ ?hB _; case hB => (simp only; omega)))))
                · exact (show Blk _ _ _ _ from (by repeat (first | with_reducible exact K4 | with_reducible refine Blk.drew ?_ | (with_reducible refine Blk.setCell_other ?_ ?hB _; case hB => (simp only; omega)))))
                · exact (show Blk _ _ _ _ from (by repeat (first | with_reducible exact K5 | with_reducible refine Blk.drew ?_ | (with_reducible refine Blk.setCell_other ?_ ?hB _; case hB => (simp only; omega)))))
                · exact (show Below _ _ _ from (by repeat (first | with_reducible exact Below.refl _ _ | with_reducible exact Below_of_hid (by assumption) | with_reducible refine Below.drew ?_ | with_reducible refine below_drewN ?_ _ | (with_reducible refine Below_putRow ?_ ?hB _ _; case hB => (first | omega | (simp; done) | (simp; omega))) | (with_reducible refine Below.alloc ?_ ?hB _; case hB => (first | omega | (simp; done) | (simp; omega))) | (with_reducible refine Below.setCell ?_ ?hB _; case hB => (first | omega | (simp; done) | (simp; omega))) | (with_reducible refine Below.trans ?_ (Below.mono (by assumption) ?hB); case hB => (first | omega | (simp; done) | (simp; omega))))))
              case measure => simp [intOf]
          · have ia := fun w => arr_1 n1 n2 n3 n4 n5 m1 m2 m3 m4 m5 w
            have ip := fun w => par_1 q1 q2 o1 o2 w
            obtain ⟨D, hD⟩ : ∃ D, rtI ((p1 - o1) * (p1 - o1) + (p2 - o2) * (p2 - o2)) = D := ⟨_, rfl⟩
            have nr := pts_near _ _ _ _ _ _ HE.out H3.out
            have D0 : 0 ≤ D ∧ D ≤ 67108864 := by
              have s1 := sqb (p1 - o1) 33554432 nr.1.1 nr.1.2
              have s2 := sqb (p2 - o2) 33554432 nr.2.1 nr.2.2
              have r := rtI_spec ((p1 - o1) * (p1 - o1) + (p2 - o2) * (p2 - o2)) (by omega)
              rw [hD] at r
              exact ⟨r.1, le_of_sq (by decide) (by omega)⟩
            obtain ⟨D1, D2⟩ := D0
            have DC : Hid (∀ w, Calls Try.prog 15 #[ptV p1 p2, ptV o1 o2] w fun e w' => e = .returned (.int .i64 D) ∧ Below w.heap.size w w') := show ∀ w, _ from by intro w; have := dist_c p1 p2 o1 o2 nr.1 nr.2 w; rw [hD] at this; exact this
            have wa : wrap64 (D + 1) = D + 1 := by unfold wrap64; omega
            have wb : wrap64 (D + 1 + wd) = D + 1 + wd := by unfold wrap64; omega
            have wc : wrap64 (D - wd) = D - wd := by unfold wrap64; omega
            have hD2 := Lib.hid hD
            clear nr hD
            go_wp2_with fail
            refine (DC.out _).mono ?_; rintro e w1 ⟨rfl, hb1⟩; have z_w1 := hb1.size; (try simp at z_w1); obtain ⟨y_w1_0_0, c_w1_0_0, f_w1_0_0, r_w1_0_0, t_w1_0_0, p_w1_0_0⟩ := bk hb1 (w.heap.size) (by first | omega | (simp; done) | (simp; omega) | fail); obtain ⟨y_w1_0_1, c_w1_0_1, f_w1_0_1, r_w1_0_1, t_w1_0_1, p_w1_0_1⟩ := bk hb1 (w.heap.size + 1) (by first | omega | (simp; done) | (simp; omega) | fail); obtain ⟨y_w1_0_2, c_w1_0_2, f_w1_0_2, r_w1_0_2, t_w1_0_2, p_w1_0_2⟩ := bk hb1 (w.heap.size + 1 + 1) (by first | omega | (simp; done) | (simp; omega) | fail); obtain ⟨y_w1_0_3, c_w1_0_3, f_w1_0_3, r_w1_0_3, t_w1_0_3, p_w1_0_3⟩ := bk hb1 (w.heap.size + 1 + 1 + 1) (by first | omega | (simp; done) | (simp; omega) | fail); obtain ⟨y_w1_0_4, c_w1_0_4, f_w1_0_4, r_w1_0_4, t_w1_0_4, p_w1_0_4⟩ := bk hb1 (w.heap.size + 1 + 1 + 1 + 1) (by first | omega | (simp; done) | (simp; omega) | fail); obtain ⟨y_w1_0_5, c_w1_0_5, f_w1_0_5, r_w1_0_5, t_w1_0_5, p_w1_0_5⟩ := bk hb1 (w.heap.size + 1 + 1 + 1 + 1 + 1) (by first | omega | (simp; done) | (simp; omega) | fail); obtain ⟨y_w1_1_0, c_w1_1_0, f_w1_1_0, r_w1_1_0, t_w1_1_0, p_w1_1_0⟩ := bk hb1 (wr.heap.size) (by first | omega | (simp; done) | (simp; omega) | fail); obtain ⟨y_w1_1_1, c_w1_1_1, f_w1_1_1, r_w1_1_1, t_w1_1_1, p_w1_1_1⟩ := bk hb1 (wr.heap.size + 1) (by first | omega | (simp; done) | (simp; omega) | fail)
            by_cases hm : 4194304 < D + 1 + wd
            · go_wp2_with fail
              refine (awake8_c _).mono ?_; rintro e w9 ⟨rfl, hb9⟩
              have z9 := hb9.size
              go_wp2
              go_ret
              exact ⟨rfl, (by repeat (first | with_reducible exact Below.refl _ _ | with_reducible exact Below_of_hid (by assumption) | with_reducible refine Below.drew ?_ | with_reducible refine below_drewN ?_ _ | (with_reducible refine Below_putRow ?_ ?hB _ _; case hB => (first | omega | (simp; done) | (simp; omega))) | (with_reducible refine Below.alloc ?_ ?hB _; case hB => (first | omega | (simp; done) | (simp; omega))) | (with_reducible refine Below.setCell ?_ ?hB _; case hB => (first | omega | (simp; done) | (simp; omega))) | (with_reducible refine Below.trans ?_ (Below.mono (by assumption) ?hB); case hB => (first | omega | (simp; done) | (simp; omega)))))⟩
            · obtain ⟨⟨fx, fy, fa, fb, fd⟩, kf, hu⟩ : ∃ o k, updE ⟨ex, ey, ea, eb, ed⟩ ⟨m1, m2, m3, m4, m5⟩ (max 0 (D - wd)) (D + 1 + wd) = (o, k) := ⟨_, _, rfl⟩
              obtain ⟨rfl, hf, ht⟩ := again_step _ _ _ _ _ _ wd D HE.out H3.out wd1 hD2.out (by omega) hu
              obtain ⟨tf, htf⟩ : ∃ t, El.tr ⟨fx, fy, fa, fb, fd⟩ = t := ⟨_, rfl⟩
              rw [htf, HT.out] at ht
              have HU := Lib.hid hu
              have HF := Lib.hid hf
              have TF := Lib.hid htf
              have nt : ¬ t < tf := by omega
              clear hu hf htf
              go_wp2_with fail
              refine (upd_v _ _ _ _ _ _ _ _ _ _ _ _ _ _ _ _ _ _ HU.out _).mono ?_; rintro e w2 ⟨rfl, hb2⟩; have z_w2 := hb2.size; (try simp at z_w2); obtain ⟨y_w2_0_0, c_w2_0_0, f_w2_0_0, r_w2_0_0, t_w2_0_0, p_w2_0_0⟩ := bk hb2 (w.heap.size) (by first | omega | (simp; done) | (simp; omega) | fail); obtain ⟨y_w2_0_1, c_w2_0_1, f_w2_0_1, r_w2_0_1, t_w2_0_1, p_w2_0_1⟩ := bk hb2 (w.heap.size + 1) (by first | omega | (simp; done) | (simp; omega) | fail); obtain ⟨y_w2_0_2, c_w2_0_2, f_w2_0_2, r_w2_0_2, t_w2_0_2, p_w2_0_2⟩ := bk hb2 (w.heap.size + 1 + 1) (by first | omega | (simp; done) | (simp; omega) | fail); obtain ⟨y_w2_0_3, c_w2_0_3, f_w2_0_3, r_w2_0_3, t_w2_0_3, p_w2_0_3⟩ := bk hb2 (w.heap.size + 1 + 1 + 1) (by first | omega | (simp; done) | (simp; omega) | fail); obtain ⟨y_w2_0_4, c_w2_0_4, f_w2_0_4, r_w2_0_4, t_w2_0_4, p_w2_0_4⟩ := bk hb2 (w.heap.size + 1 + 1 + 1 + 1) (by first | omega | (simp; done) | (simp; omega) | fail); obtain ⟨y_w2_0_5, c_w2_0_5, f_w2_0_5, r_w2_0_5, t_w2_0_5, p_w2_0_5⟩ := bk hb2 (w.heap.size + 1 + 1 + 1 + 1 + 1) (by first | omega | (simp; done) | (simp; omega) | fail); obtain ⟨y_w2_1_0, c_w2_1_0, f_w2_1_0, r_w2_1_0, t_w2_1_0, p_w2_1_0⟩ := bk hb2 (wr.heap.size) (by first | omega | (simp; done) | (simp; omega) | fail); obtain ⟨y_w2_1_1, c_w2_1_1, f_w2_1_1, r_w2_1_1, t_w2_1_1, p_w2_1_1⟩ := bk hb2 (wr.heap.size + 1) (by first | omega | (simp; done) | (simp; omega) | fail)
              go_wp2_with fail
              refine (ellin_v _ _ _ _ _ _ _ _ HF.out _).mono ?_; rintro e w3 ⟨rfl, hb3⟩; have z_w3 := hb3.size; (try simp at z_w3); obtain ⟨y_w3_0_0, c_w3_0_0, f_w3_0_0, r_w3_0_0, t_w3_0_0, p_w3_0_0⟩ := bk hb3 (w.heap.size) (by first | omega | (simp; done) | (simp; omega) | fail); obtain ⟨y_w3_0_1, c_w3_0_1, f_w3_0_1, r_w3_0_1, t_w3_0_1, p_w3_0_1⟩ := bk hb3 (w.heap.size + 1) (by first | omega | (simp; done) | (simp; omega) | fail); obtain ⟨y_w3_0_2, c_w3_0_2, f_w3_0_2, r_w3_0_2, t_w3_0_2, p_w3_0_2⟩ := bk hb3 (w.heap.size + 1 + 1) (by first | omega | (simp; done) | (simp; omega) | fail); obtain ⟨y_w3_0_3, c_w3_0_3, f_w3_0_3, r_w3_0_3, t_w3_0_3, p_w3_0_3⟩ := bk hb3 (w.heap.size + 1 + 1 + 1) (by first | omega | (simp; done) | (simp; omega) | fail); obtain ⟨y_w3_0_4, c_w3_0_4, f_w3_0_4, r_w3_0_4, t_w3_0_4, p_w3_0_4⟩ := bk hb3 (w.heap.size + 1 + 1 + 1 + 1) (by first | omega | (simp; done) | (simp; omega) | fail); obtain ⟨y_w3_0_5, c_w3_0_5, f_w3_0_5, r_w3_0_5, t_w3_0_5, p_w3_0_5⟩ := bk hb3 (w.heap.size + 1 + 1 + 1 + 1 + 1) (by first | omega | (simp; done) | (simp; omega) | fail); obtain ⟨y_w3_1_0, c_w3_1_0, f_w3_1_0, r_w3_1_0, t_w3_1_0, p_w3_1_0⟩ := bk hb3 (w2.heap.size) (by first | omega | (simp; done) | (simp; omega) | fail)
              go_wp2_with fail
              refine (trace_v _ _ _ _ _ _ TF.out _).mono ?_; rintro e w4 ⟨rfl, hb4⟩; have z_w4 := hb4.size; (try simp at z_w4); obtain ⟨y_w4_0_0, c_w4_0_0, f_w4_0_0, r_w4_0_0, t_w4_0_0, p_w4_0_0⟩ := bk hb4 (w.heap.size) (by first | omega | (simp; done) | (simp; omega) | fail); obtain ⟨y_w4_0_1, c_w4_0_1, f_w4_0_1, r_w4_0_1, t_w4_0_1, p_w4_0_1⟩ := bk hb4 (w.heap.size + 1) (by first | omega | (simp; done) | (simp; omega) | fail); obtain ⟨y_w4_0_2, c_w4_0_2, f_w4_0_2, r_w4_0_2, t_w4_0_2, p_w4_0_2⟩ := bk hb4 (w.heap.size + 1 + 1) (by first | omega | (simp; done) | (simp; omega) | fail); obtain ⟨y_w4_0_3, c_w4_0_3, f_w4_0_3, r_w4_0_3, t_w4_0_3, p_w4_0_3⟩ := bk hb4 (w.heap.size + 1 + 1 + 1) (by first | omega | (simp; done) | (simp; omega) | fail); obtain ⟨y_w4_0_4, c_w4_0_4, f_w4_0_4, r_w4_0_4, t_w4_0_4, p_w4_0_4⟩ := bk hb4 (w.heap.size + 1 + 1 + 1 + 1) (by first | omega | (simp; done) | (simp; omega) | fail); obtain ⟨y_w4_0_5, c_w4_0_5, f_w4_0_5, r_w4_0_5, t_w4_0_5, p_w4_0_5⟩ := bk hb4 (w.heap.size + 1 + 1 + 1 + 1 + 1) (by first | omega | (simp; done) | (simp; omega) | fail); obtain ⟨y_w4_1_0, c_w4_1_0, f_w4_1_0, r_w4_1_0, t_w4_1_0, p_w4_1_0⟩ := bk hb4 (w2.heap.size) (by first | omega | (simp; done) | (simp; omega) | fail)
              have G0 : Hid (Blk w4 w.heap.size #[.int .i64 ex, .int .i64 ey, .int .i64 ea, .int .i64 eb, .int .i64 ed] 27) := (((((((C0.out.alloc _).alloc _).keep hb1).keep hb2).alloc _).keep hb3).keep hb4)
              have G3 : Hid (Blk w4 (w.heap.size + 1 + 1 + 1) #[.int .i64 p1, .int .i64 p2] 23) := (((((((C3.out.alloc _).alloc _).keep hb1).keep hb2).alloc _).keep hb3).keep hb4)
              have G4 : Hid (Blk w4 (w.heap.size + 1 + 1 + 1 + 1) #[.int .i64 q1, .int .i64 q2] 23) := (((((((C4.out.alloc _).alloc _).keep hb1).keep hb2).alloc _).keep hb3).keep hb4)
              have G5 : Hid (Blk w4 (w.heap.size + 1 + 1 + 1 + 1 + 1) #[.int .i64 o1, .int .i64 o2] 23) := (((((((C5.out.alloc _).alloc _).keep hb1).keep hb2).alloc _).keep hb3).keep hb4)
              have GF : Hid (Blk w4 w2.heap.size #[.int .i64 fx, .int .i64 fy, .int .i64 fa, .int .i64 fb, .int .i64 fd] 27) := ((Blk.new w2 _ _).keep hb3).keep hb4
              have HG : Hid (Below w.heap.size w w4) := (show Below _ _ _ from (by repeat (first | with_reducible exact Below.refl _ _ | with_reducible exact Below_of_hid (by assumption) | with_reducible refine Below.drew ?_ | with_reducible refine below_drewN ?_ _ | (with_reducible refine Below_putRow ?_ ?hB _ _; case hB => (first | omega | (simp; done) | (simp; omega))) | (with_reducible refine Below.alloc ?_ ?hB _; case hB => (first | omega | (simp; done) | (simp; omega))) | (with_reducible refine Below.setCell ?_ ?hB _; case hB => (first | omega | (simp; done) | (simp; omega))) | (with_reducible refine Below.trans ?_ (Below.mono (by assumption) ?hB); case hB => (first | omega | (simp; done) | (simp; omega))))))
              go_wp2_with fail
              have ne2 : ¬ (w2.heap.size = w.heap.size) := by omega
              clear z_w4 y_w4_0_0 c_w4_0_0 f_w4_0_0 r_w4_0_0 t_w4_0_0 p_w4_0_0 y_w4_0_1 c_w4_0_1 f_w4_0_1 r_w4_0_1 t_w4_0_1 p_w4_0_1 y_w4_0_2 c_w4_0_2 f_w4_0_2 r_w4_0_2 t_w4_0_2 p_w4_0_2 y_w4_0_3 c_w4_0_3 f_w4_0_3 r_w4_0_3 t_w4_0_3 p_w4_0_3 y_w4_0_4 c_w4_0_4 f_w4_0_4 r_w4_0_4 t_w4_0_4 p_w4_0_4 y_w4_0_5 c_w4_0_5 f_w4_0_5 r_w4_0_5 t_w4_0_5 p_w4_0_5 y_w4_1_0 c_w4_1_0 f_w4_1_0 r_w4_1_0 t_w4_1_0 p_w4_1_0
              clear z_w3 y_w3_0_0 c_w3_0_0 f_w3_0_0 r_w3_0_0 t_w3_0_0 p_w3_0_0 y_w3_0_1 c_w3_0_1 f_w3_0_1 r_w3_0_1 t_w3_0_1 p_w3_0_1 y_w3_0_2 c_w3_0_2 f_w3_0_2 r_w3_0_2 t_w3_0_2 p_w3_0_2 y_w3_0_3 c_w3_0_3 f_w3_0_3 r_w3_0_3 t_w3_0_3 p_w3_0_3 y_w3_0_4 c_w3_0_4 f_w3_0_4 r_w3_0_4 t_w3_0_4 p_w3_0_4 y_w3_0_5 c_w3_0_5 f_w3_0_5 r_w3_0_5 t_w3_0_5 p_w3_0_5 y_w3_1_0 c_w3_1_0 f_w3_1_0 r_w3_1_0 t_w3_1_0 p_w3_1_0
              clear z_w2 y_w2_0_0 c_w2_0_0 f_w2_0_0 r_w2_0_0 t_w2_0_0 p_w2_0_0 y_w2_0_1 c_w2_0_1 f_w2_0_1 r_w2_0_1 t_w2_0_1 p_w2_0_1 y_w2_0_2 c_w2_0_2 f_w2_0_2 r_w2_0_2 t_w2_0_2 p_w2_0_2 y_w2_0_3 c_w2_0_3 f_w2_0_3 r_w2_0_3 t_w2_0_3 p_w2_0_3 y_w2_0_4 c_w2_0_4 f_w2_0_4 r_w2_0_4 t_w2_0_4 p_w2_0_4 y_w2_0_5 c_w2_0_5 f_w2_0_5 r_w2_0_5 t_w2_0_5 p_w2_0_5 y_w2_1_0 c_w2_1_0 f_w2_1_0 r_w2_1_0 t_w2_1_0 p_w2_1_0 y_w2_1_1 c_w2_1_1 f_w2_1_1 r_w2_1_1 t_w2_1_1 p_w2_1_1
              clear z_w1 y_w1_0_0 c_w1_0_0 f_w1_0_0 r_w1_0_0 t_w1_0_0 p_w1_0_0 y_w1_0_1 c_w1_0_1 f_w1_0_1 r_w1_0_1 t_w1_0_1 p_w1_0_1 y_w1_0_2 c_w1_0_2 f_w1_0_2 r_w1_0_2 t_w1_0_2 p_w1_0_2 y_w1_0_3 c_w1_0_3 f_w1_0_3 r_w1_0_3 t_w1_0_3 p_w1_0_3 y_w1_0_4 c_w1_0_4 f_w1_0_4 r_w1_0_4 t_w1_0_4 p_w1_0_4 y_w1_0_5 c_w1_0_5 f_w1_0_5 r_w1_0_5 t_w1_0_5 p_w1_0_5 y_w1_1_0 c_w1_1_0 f_w1_1_0 r_w1_1_0 t_w1_1_0 p_w1_1_0 y_w1_1_1 c_w1_1_1 f_w1_1_1 r_w1_1_1 t_w1_1_1 p_w1_1_1
              clear hb1 hb2 hb3 hb4 C0 C3 C4 C5 HC c0 f0 y0 c3 f3 y3 c4 f4 y4 c5 f5 y5 hbc
              obtain ⟨y0, c0, f0, -⟩ := bk_facts8 G0.out
              have XX : Blk w4 w2.heap.size #[.int .i64 fx, .int .i64 fy, .int .i64 fa, .int .i64 fb, .int .i64 fd] 27 := GF.out
              have rr := el_cells5 XX
              go_region_held3 (fun w' => w'.cell? ⟨w2.heap.size, 0, none⟩ = some (.int .i64 fx) ∧ w'.cell? ⟨w2.heap.size, 1, none⟩ = some (.int .i64 fy) ∧ w'.cell? ⟨w2.heap.size, 2, none⟩ = some (.int .i64 fa) ∧ w'.cell? ⟨w2.heap.size, 3, none⟩ = some (.int .i64 fb) ∧ w'.cell? ⟨w2.heap.size, 4, none⟩ = some (.int .i64 fd)) (first | with_reducible exact rr | (with_reducible refine el_cells5 (t := 27) ?_; (repeat (first | with_reducible exact XX | with_reducible refine Blk.drew ?_ | with_reducible refine Blk.alloc ?_ _ | (with_reducible refine Blk.setCell_other ?_ ?hB _; case hB => exact ne2))); done) | go_simp)
                (first | (go_at_call 13; refine (trace_v _ _ _ _ _ _ TF.out _).mono ?_; rintro e w5 ⟨rfl, hb5⟩; have XX : Blk w5 w2.heap.size #[.int .i64 fx, .int .i64 fy, .int .i64 fa, .int .i64 fb, .int .i64 fd] 27 := (by (with_reducible refine Blk.keep ?_ hb5); (repeat (first | with_reducible exact XX | with_reducible refine Blk.drew ?_ | with_reducible refine Blk.alloc ?_ _))); have rr := el_cells5 XX; have G9 : Blk w5 w.heap.size #[.int .i64 ex, .int .i64 ey, .int .i64 ea, .int .i64 eb, .int .i64 ed] 27 := Blk.keep (Blk.drew G0.out) hb5; obtain ⟨y6, c6, f6, -⟩ := bk_facts8 G9))
              have K3 := Blk.keep (Blk.drew G3.out) hb5
              have K4 := Blk.keep (Blk.drew G4.out) hb5
              have K5 := Blk.keep (Blk.drew G5.out) hb5
              have hbg := HG.out
              have sg := hbg.size
              have s5 := hb5.size
              go_wp2_with fail
              go_roundw
              case rel =>
                refine ⟨2, tf, fx, fy, fa, fb, fd, by decide, by go_num, rfl, HF, TF, ?_, ?_, ?_, ?_, ?_⟩
                · show Blk _ _ _ _
                  apply Blk.of_eq
                  · repeat (first | with_reducible exact G9 | with_reducible apply Blk.drew | with_reducible apply Blk.setCell_same)
                  · rfl
                · exact (show Blk _ _ _ _ from (by repeat (first | with_reducible exact K3 | with_reducible refine Blk.drew ?_ | (with_reducible refine Blk.setCell_other ?_ ?hB _; case hB => (simp only; omega)))))
                · exact (show Blk _ _ _ _ from (by repeat (first | with_reducible exact K4 | with_reducible refine Blk.drew ?_ | (with_reducible refine Blk.setCell_other ?_ ?hB _; case hB => (simp only; omega)))))
                · exact (show Blk _ _ _ _ from (by repeat (first | with_reducible exact K5 | with_reducible refine Blk.drew ?_ | (with_reducible refine Blk.setCell_other ?_ ?hB _; case hB => (simp only; omega)))))
                · exact (show Below _ _ _ from (by repeat (first | with_reducible exact Below.refl _ _ | with_reducible exact Below_of_hid (by assumption) | with_reducible refine Below.drew ?_ | with_reducible refine below_drewN ?_ _ | (with_reducible refine Below_putRow ?_ ?hB _ _; case hB => (first | omega | (simp; done) | (simp; omega))) | (with_reducible refine Below.alloc ?_ ?hB _; case hB => (first | omega | (simp; done) | (simp; omega))) | (with_reducible refine Below.setCell ?_ ?hB _; case hB => (first | omega | (simp; done) | (simp; omega))) | (with_reducible refine Below.trans ?_ (Below.mono (by assumption) ?hB); case hB => (first | omega | (simp; done) | (simp; omega))))))
              case measure => simp [intOf]
          · have ia := fun w => arr_2 n1 n2 n3 n4 n5 m1 m2 m3 m4 m5 w
            have ip := fun w => par_0 q1 q2 o1 o2 w
            obtain ⟨D, hD⟩ : ∃ D, rtI ((p1 - q1) * (p1 - q1) + (p2 - q2) * (p2 - q2)) = D := ⟨_, rfl⟩
            have nr := pts_near _ _ _ _ _ _ HE.out H2.out
            have D0 : 0 ≤ D ∧ D ≤ 67108864 := by
              have s1 := sqb (p1 - q1) 33554432 nr.1.1 nr.1.2
              have s2 := sqb (p2 - q2) 33554432 nr.2.1 nr.2.2
              have r := rtI_spec ((p1 - q1) * (p1 - q1) + (p2 - q2) * (p2 - q2)) (by omega)
              rw [hD] at r
              exact ⟨r.1, le_of_sq (by decide) (by omega)⟩
            obtain ⟨D1, D2⟩ := D0
            have DC : Hid (∀ w, Calls Try.prog 15 #[ptV p1 p2, ptV q1 q2] w fun e w' => e = .returned (.int .i64 D) ∧ Below w.heap.size w w') := show ∀ w, _ from by intro w; have := dist_c p1 p2 q1 q2 nr.1 nr.2 w; rw [hD] at this; exact this
            have wa : wrap64 (D + 1) = D + 1 := by unfold wrap64; omega
            have wb : wrap64 (D + 1 + wd) = D + 1 + wd := by unfold wrap64; omega
            have wc : wrap64 (D - wd) = D - wd := by unfold wrap64; omega
            have hD2 := Lib.hid hD
            clear nr hD
            go_wp2_with fail
            refine (DC.out _).mono ?_; rintro e w1 ⟨rfl, hb1⟩; have z_w1 := hb1.size; (try simp at z_w1); obtain ⟨y_w1_0_0, c_w1_0_0, f_w1_0_0, r_w1_0_0, t_w1_0_0, p_w1_0_0⟩ := bk hb1 (w.heap.size) (by first | omega | (simp; done) | (simp; omega) | fail); obtain ⟨y_w1_0_1, c_w1_0_1, f_w1_0_1, r_w1_0_1, t_w1_0_1, p_w1_0_1⟩ := bk hb1 (w.heap.size + 1) (by first | omega | (simp; done) | (simp; omega) | fail); obtain ⟨y_w1_0_2, c_w1_0_2, f_w1_0_2, r_w1_0_2, t_w1_0_2, p_w1_0_2⟩ := bk hb1 (w.heap.size + 1 + 1) (by first | omega | (simp; done) | (simp; omega) | fail); obtain ⟨y_w1_0_3, c_w1_0_3, f_w1_0_3, r_w1_0_3, t_w1_0_3, p_w1_0_3⟩ := bk hb1 (w.heap.size + 1 + 1 + 1) (by first | omega | (simp; done) | (simp; omega) | fail); obtain ⟨y_w1_0_4, c_w1_0_4, f_w1_0_4, r_w1_0_4, t_w1_0_4, p_w1_0_4⟩ := bk hb1 (w.heap.size + 1 + 1 + 1 + 1) (by first | omega | (simp; done) | (simp; omega) | fail); obtain ⟨y_w1_0_5, c_w1_0_5, f_w1_0_5, r_w1_0_5, t_w1_0_5, p_w1_0_5⟩ := bk hb1 (w.heap.size + 1 + 1 + 1 + 1 + 1) (by first | omega | (simp; done) | (simp; omega) | fail); obtain ⟨y_w1_1_0, c_w1_1_0, f_w1_1_0, r_w1_1_0, t_w1_1_0, p_w1_1_0⟩ := bk hb1 (wr.heap.size) (by first | omega | (simp; done) | (simp; omega) | fail); obtain ⟨y_w1_1_1, c_w1_1_1, f_w1_1_1, r_w1_1_1, t_w1_1_1, p_w1_1_1⟩ := bk hb1 (wr.heap.size + 1) (by first | omega | (simp; done) | (simp; omega) | fail)
            by_cases hm : 4194304 < D + 1 + wd
            · go_wp2_with fail
              refine (awake8_c _).mono ?_; rintro e w9 ⟨rfl, hb9⟩
              have z9 := hb9.size
              go_wp2
              go_ret
              exact ⟨rfl, (by repeat (first | with_reducible exact Below.refl _ _ | with_reducible exact Below_of_hid (by assumption) | with_reducible refine Below.drew ?_ | with_reducible refine below_drewN ?_ _ | (with_reducible refine Below_putRow ?_ ?hB _ _; case hB => (first | omega | (simp; done) | (simp; omega))) | (with_reducible refine Below.alloc ?_ ?hB _; case hB => (first | omega | (simp; done) | (simp; omega))) | (with_reducible refine Below.setCell ?_ ?hB _; case hB => (first | omega | (simp; done) | (simp; omega))) | (with_reducible refine Below.trans ?_ (Below.mono (by assumption) ?hB); case hB => (first | omega | (simp; done) | (simp; omega)))))⟩
            · obtain ⟨⟨fx, fy, fa, fb, fd⟩, kf, hu⟩ : ∃ o k, updE ⟨ex, ey, ea, eb, ed⟩ ⟨n1, n2, n3, n4, n5⟩ (max 0 (D - wd)) (D + 1 + wd) = (o, k) := ⟨_, _, rfl⟩
              obtain ⟨rfl, hf, ht⟩ := again_step _ _ _ _ _ _ wd D HE.out H2.out wd1 hD2.out (by omega) hu
              obtain ⟨tf, htf⟩ : ∃ t, El.tr ⟨fx, fy, fa, fb, fd⟩ = t := ⟨_, rfl⟩
              rw [htf, HT.out] at ht
              have HU := Lib.hid hu
              have HF := Lib.hid hf
              have TF := Lib.hid htf
              have nt : ¬ t < tf := by omega
              clear hu hf htf
              go_wp2_with fail
              refine (upd_v _ _ _ _ _ _ _ _ _ _ _ _ _ _ _ _ _ _ HU.out _).mono ?_; rintro e w2 ⟨rfl, hb2⟩; have z_w2 := hb2.size; (try simp at z_w2); obtain ⟨y_w2_0_0, c_w2_0_0, f_w2_0_0, r_w2_0_0, t_w2_0_0, p_w2_0_0⟩ := bk hb2 (w.heap.size) (by first | omega | (simp; done) | (simp; omega) | fail); obtain ⟨y_w2_0_1, c_w2_0_1, f_w2_0_1, r_w2_0_1, t_w2_0_1, p_w2_0_1⟩ := bk hb2 (w.heap.size + 1) (by first | omega | (simp; done) | (simp; omega) | fail); obtain ⟨y_w2_0_2, c_w2_0_2, f_w2_0_2, r_w2_0_2, t_w2_0_2, p_w2_0_2⟩ := bk hb2 (w.heap.size + 1 + 1) (by first | omega | (simp; done) | (simp; omega) | fail); obtain ⟨y_w2_0_3, c_w2_0_3, f_w2_0_3, r_w2_0_3, t_w2_0_3, p_w2_0_3⟩ := bk hb2 (w.heap.size + 1 + 1 + 1) (by first | omega | (simp; done) | (simp; omega) | fail); obtain ⟨y_w2_0_4, c_w2_0_4, f_w2_0_4, r_w2_0_4, t_w2_0_4, p_w2_0_4⟩ := bk hb2 (w.heap.size + 1 + 1 + 1 + 1) (by first | omega | (simp; done) | (simp; omega) | fail); obtain ⟨y_w2_0_5, c_w2_0_5, f_w2_0_5, r_w2_0_5, t_w2_0_5, p_w2_0_5⟩ := bk hb2 (w.heap.size + 1 + 1 + 1 + 1 + 1) (by first | omega | (simp; done) | (simp; omega) | fail); obtain ⟨y_w2_1_0, c_w2_1_0, f_w2_1_0, r_w2_1_0, t_w2_1_0, p_w2_1_0⟩ := bk hb2 (wr.heap.size) (by first | omega | (simp; done) | (simp; omega) | fail); obtain ⟨y_w2_1_1, c_w2_1_1, f_w2_1_1, r_w2_1_1, t_w2_1_1, p_w2_1_1⟩ := bk hb2 (wr.heap.size + 1) (by first | omega | (simp; done) | (simp; omega) | fail)
              go_wp2_with fail
              refine (ellin_v _ _ _ _ _ _ _ _ HF.out _).mono ?_; rintro e w3 ⟨rfl, hb3⟩; have z_w3 := hb3.size; (try simp at z_w3); obtain ⟨y_w3_0_0, c_w3_0_0, f_w3_0_0, r_w3_0_0, t_w3_0_0, p_w3_0_0⟩ := bk hb3 (w.heap.size) (by first | omega | (simp; done) | (simp; omega) | fail); obtain ⟨y_w3_0_1, c_w3_0_1, f_w3_0_1, r_w3_0_1, t_w3_0_1, p_w3_0_1⟩ := bk hb3 (w.heap.size + 1) (by first | omega | (simp; done) | (simp; omega) | fail); obtain ⟨y_w3_0_2, c_w3_0_2, f_w3_0_2, r_w3_0_2, t_w3_0_2, p_w3_0_2⟩ := bk hb3 (w.heap.size + 1 + 1) (by first | omega | (simp; done) | (simp; omega) | fail); obtain ⟨y_w3_0_3, c_w3_0_3, f_w3_0_3, r_w3_0_3, t_w3_0_3, p_w3_0_3⟩ := bk hb3 (w.heap.size + 1 + 1 + 1) (by first | omega | (simp; done) | (simp; omega) | fail); obtain ⟨y_w3_0_4, c_w3_0_4, f_w3_0_4, r_w3_0_4, t_w3_0_4, p_w3_0_4⟩ := bk hb3 (w.heap.size + 1 + 1 + 1 + 1) (by first | omega | (simp; done) | (simp; omega) | fail); obtain ⟨y_w3_0_5, c_w3_0_5, f_w3_0_5, r_w3_0_5, t_w3_0_5, p_w3_0_5⟩ := bk hb3 (w.heap.size + 1 + 1 + 1 + 1 + 1) (by first | omega | (simp; done) | (simp; omega) | fail); obtain ⟨y_w3_1_0, c_w3_1_0, f_w3_1_0, r_w3_1_0, t_w3_1_0, p_w3_1_0⟩ := bk hb3 (w2.heap.size) (by first | omega | (simp; done) | (simp; omega) | fail)
              go_wp2_with fail
              refine (trace_v _ _ _ _ _ _ TF.out _).mono ?_; rintro e w4 ⟨rfl, hb4⟩; have z_w4 := hb4.size; (try simp at z_w4); obtain ⟨y_w4_0_0, c_w4_0_0, f_w4_0_0, r_w4_0_0, t_w4_0_0, p_w4_0_0⟩ := bk hb4 (w.heap.size) (by first | omega | (simp; done) | (simp; omega) | fail); obtain ⟨y_w4_0_1, c_w4_0_1, f_w4_0_1, r_w4_0_1, t_w4_0_1, p_w4_0_1⟩ := bk hb4 (w.heap.size + 1) (by first | omega | (simp; done) | (simp; omega) | fail); obtain ⟨y_w4_0_2, c_w4_0_2, f_w4_0_2, r_w4_0_2, t_w4_0_2, p_w4_0_2⟩ := bk hb4 (w.heap.size + 1 + 1) (by first | omega | (simp; done) | (simp; omega) | fail); obtain ⟨y_w4_0_3, c_w4_0_3, f_w4_0_3, r_w4_0_3, t_w4_0_3, p_w4_0_3⟩ := bk hb4 (w.heap.size + 1 + 1 + 1) (by first | omega | (simp; done) | (simp; omega) | fail); obtain ⟨y_w4_0_4, c_w4_0_4, f_w4_0_4, r_w4_0_4, t_w4_0_4, p_w4_0_4⟩ := bk hb4 (w.heap.size + 1 + 1 + 1 + 1) (by first | omega | (simp; done) | (simp; omega) | fail); obtain ⟨y_w4_0_5, c_w4_0_5, f_w4_0_5, r_w4_0_5, t_w4_0_5, p_w4_0_5⟩ := bk hb4 (w.heap.size + 1 + 1 + 1 + 1 + 1) (by first | omega | (simp; done) | (simp; omega) | fail); obtain ⟨y_w4_1_0, c_w4_1_0, f_w4_1_0, r_w4_1_0, t_w4_1_0, p_w4_1_0⟩ := bk hb4 (w2.heap.size) (by first | omega | (simp; done) | (simp; omega) | fail)
              have G0 : Hid (Blk w4 w.heap.size #[.int .i64 ex, .int .i64 ey, .int .i64 ea, .int .i64 eb, .int .i64 ed] 27) := (((((((C0.out.alloc _).alloc _).keep hb1).keep hb2).alloc _).keep hb3).keep hb4)
              have G3 : Hid (Blk w4 (w.heap.size + 1 + 1 + 1) #[.int .i64 p1, .int .i64 p2] 23) := (((((((C3.out.alloc _).alloc _).keep hb1).keep hb2).alloc _).keep hb3).keep hb4)
              have G4 : Hid (Blk w4 (w.heap.size + 1 + 1 + 1 + 1) #[.int .i64 q1, .int .i64 q2] 23) := (((((((C4.out.alloc _).alloc _).keep hb1).keep hb2).alloc _).keep hb3).keep hb4)
              have G5 : Hid (Blk w4 (w.heap.size + 1 + 1 + 1 + 1 + 1) #[.int .i64 o1, .int .i64 o2] 23) := (((((((C5.out.alloc _).alloc _).keep hb1).keep hb2).alloc _).keep hb3).keep hb4)
              have GF : Hid (Blk w4 w2.heap.size #[.int .i64 fx, .int .i64 fy, .int .i64 fa, .int .i64 fb, .int .i64 fd] 27) := ((Blk.new w2 _ _).keep hb3).keep hb4
              have HG : Hid (Below w.heap.size w w4) := (show Below _ _ _ from (by repeat (first | with_reducible exact Below.refl _ _ | with_reducible exact Below_of_hid (by assumption) | with_reducible refine Below.drew ?_ | with_reducible refine below_drewN ?_ _ | (with_reducible refine Below_putRow ?_ ?hB _ _; case hB => (first | omega | (simp; done) | (simp; omega))) | (with_reducible refine Below.alloc ?_ ?hB _; case hB => (first | omega | (simp; done) | (simp; omega))) | (with_reducible refine Below.setCell ?_ ?hB _; case hB => (first | omega | (simp; done) | (simp; omega))) | (with_reducible refine Below.trans ?_ (Below.mono (by assumption) ?hB); case hB => (first | omega | (simp; done) | (simp; omega))))))
              go_wp2_with fail
              have ne2 : ¬ (w2.heap.size = w.heap.size) := by omega
              clear z_w4 y_w4_0_0 c_w4_0_0 f_w4_0_0 r_w4_0_0 t_w4_0_0 p_w4_0_0 y_w4_0_1 c_w4_0_1 f_w4_0_1 r_w4_0_1 t_w4_0_1 p_w4_0_1 y_w4_0_2 c_w4_0_2 f_w4_0_2 r_w4_0_2 t_w4_0_2 p_w4_0_2 y_w4_0_3 c_w4_0_3 f_w4_0_3 r_w4_0_3 t_w4_0_3 p_w4_0_3 y_w4_0_4 c_w4_0_4 f_w4_0_4 r_w4_0_4 t_w4_0_4 p_w4_0_4 y_w4_0_5 c_w4_0_5 f_w4_0_5 r_w4_0_5 t_w4_0_5 p_w4_0_5 y_w4_1_0 c_w4_1_0 f_w4_1_0 r_w4_1_0 t_w4_1_0 p_w4_1_0
              clear z_w3 y_w3_0_0 c_w3_0_0 f_w3_0_0 r_w3_0_0 t_w3_0_0 p_w3_0_0 y_w3_0_1 c_w3_0_1 f_w3_0_1 r_w3_0_1 t_w3_0_1 p_w3_0_1 y_w3_0_2 c_w3_0_2 f_w3_0_2 r_w3_0_2 t_w3_0_2 p_w3_0_2 y_w3_0_3 c_w3_0_3 f_w3_0_3 r_w3_0_3 t_w3_0_3 p_w3_0_3 y_w3_0_4 c_w3_0_4 f_w3_0_4 r_w3_0_4 t_w3_0_4 p_w3_0_4 y_w3_0_5 c_w3_0_5 f_w3_0_5 r_w3_0_5 t_w3_0_5 p_w3_0_5 y_w3_1_0 c_w3_1_0 f_w3_1_0 r_w3_1_0 t_w3_1_0 p_w3_1_0
              clear z_w2 y_w2_0_0 c_w2_0_0 f_w2_0_0 r_w2_0_0 t_w2_0_0 p_w2_0_0 y_w2_0_1 c_w2_0_1 f_w2_0_1 r_w2_0_1 t_w2_0_1 p_w2_0_1 y_w2_0_2 c_w2_0_2 f_w2_0_2 r_w2_0_2 t_w2_0_2 p_w2_0_2 y_w2_0_3 c_w2_0_3 f_w2_0_3 r_w2_0_3 t_w2_0_3 p_w2_0_3 y_w2_0_4 c_w2_0_4 f_w2_0_4 r_w2_0_4 t_w2_0_4 p_w2_0_4 y_w2_0_5 c_w2_0_5 f_w2_0_5 r_w2_0_5 t_w2_0_5 p_w2_0_5 y_w2_1_0 c_w2_1_0 f_w2_1_0 r_w2_1_0 t_w2_1_0 p_w2_1_0 y_w2_1_1 c_w2_1_1 f_w2_1_1 r_w2_1_1 t_w2_1_1 p_w2_1_1
              clear z_w1 y_w1_0_0 c_w1_0_0 f_w1_0_0 r_w1_0_0 t_w1_0_0 p_w1_0_0 y_w1_0_1 c_w1_0_1 f_w1_0_1 r_w1_0_1 t_w1_0_1 p_w1_0_1 y_w1_0_2 c_w1_0_2 f_w1_0_2 r_w1_0_2 t_w1_0_2 p_w1_0_2 y_w1_0_3 c_w1_0_3 f_w1_0_3 r_w1_0_3 t_w1_0_3 p_w1_0_3 y_w1_0_4 c_w1_0_4 f_w1_0_4 r_w1_0_4 t_w1_0_4 p_w1_0_4 y_w1_0_5 c_w1_0_5 f_w1_0_5 r_w1_0_5 t_w1_0_5 p_w1_0_5 y_w1_1_0 c_w1_1_0 f_w1_1_0 r_w1_1_0 t_w1_1_0 p_w1_1_0 y_w1_1_1 c_w1_1_1 f_w1_1_1 r_w1_1_1 t_w1_1_1 p_w1_1_1
              clear hb1 hb2 hb3 hb4 C0 C3 C4 C5 HC c0 f0 y0 c3 f3 y3 c4 f4 y4 c5 f5 y5 hbc
              obtain ⟨y0, c0, f0, -⟩ := bk_facts8 G0.out
              have XX : Blk w4 w2.heap.size #[.int .i64 fx, .int .i64 fy, .int .i64 fa, .int .i64 fb, .int .i64 fd] 27 := GF.out
              have rr := el_cells5 XX
              go_region_held3 (fun w' => w'.cell? ⟨w2.heap.size, 0, none⟩ = some (.int .i64 fx) ∧ w'.cell? ⟨w2.heap.size, 1, none⟩ = some (.int .i64 fy) ∧ w'.cell? ⟨w2.heap.size, 2, none⟩ = some (.int .i64 fa) ∧ w'.cell? ⟨w2.heap.size, 3, none⟩ = some (.int .i64 fb) ∧ w'.cell? ⟨w2.heap.size, 4, none⟩ = some (.int .i64 fd)) (first | with_reducible exact rr | (with_reducible refine el_cells5 (t := 27) ?_; (repeat (first | with_reducible exact XX | with_reducible refine Blk.drew ?_ | with_reducible refine Blk.alloc ?_ _ | (with_reducible refine Blk.setCell_other ?_ ?hB _; case hB => exact ne2))); done) | go_simp)
                (first | (go_at_call 13; refine (trace_v _ _ _ _ _ _ TF.out _).mono ?_; rintro e w5 ⟨rfl, hb5⟩; have XX : Blk w5 w2.heap.size #[.int .i64 fx, .int .i64 fy, .int .i64 fa, .int .i64 fb, .int .i64 fd] 27 := (by (with_reducible refine Blk.keep ?_ hb5); (repeat (first | with_reducible exact XX | with_reducible refine Blk.drew ?_ | with_reducible refine Blk.alloc ?_ _))); have rr := el_cells5 XX; have G9 : Blk w5 w.heap.size #[.int .i64 ex, .int .i64 ey, .int .i64 ea, .int .i64 eb, .int .i64 ed] 27 := Blk.keep (Blk.drew G0.out) hb5; obtain ⟨y6, c6, f6, -⟩ := bk_facts8 G9))
              have K3 := Blk.keep (Blk.drew G3.out) hb5
              have K4 := Blk.keep (Blk.drew G4.out) hb5
              have K5 := Blk.keep (Blk.drew G5.out) hb5
              have hbg := HG.out
              have sg := hbg.size
              have s5 := hb5.size
              go_wp2_with fail
              go_roundw
              case rel =>
                refine ⟨3, tf, fx, fy, fa, fb, fd, by decide, by go_num, rfl, HF, TF, ?_, ?_, ?_, ?_, ?_⟩
                · show Blk _ _ _ _
                  apply Blk.of_eq
                  · repeat (first | with_reducible exact G9 | with_reducible apply Blk.drew | with_reducible apply Blk.setCell_same)
                  · rfl
                · exact (show Blk _ _ _ _ from (by repeat (first | with_reducible exact K3 | with_reducible refine Blk.drew ?_ | (with_reducible refine Blk.setCell_other ?_ ?hB _; case hB => (simp only; omega)))))
                · exact (show Blk _ _ _ _ from (by repeat (first | with_reducible exact K4 | with_reducible refine Blk.drew ?_ | (with_reducible refine Blk.setCell_other ?_ ?hB _; case hB => (simp only; omega)))))
                · exact (show Blk _ _ _ _ from (by repeat (first | with_reducible exact K5 | with_reducible refine Blk.drew ?_ | (with_reducible refine Blk.setCell_other ?_ ?hB _; case hB => (simp only; omega)))))
                · exact (show Below _ _ _ from (by repeat (first | with_reducible exact Below.refl _ _ | with_reducible exact Below_of_hid (by assumption) | with_reducible refine Below.drew ?_ | with_reducible refine below_drewN ?_ _ | (with_reducible refine Below_putRow ?_ ?hB _ _; case hB => (first | omega | (simp; done) | (simp; omega))) | (with_reducible refine Below.alloc ?_ ?hB _; case hB => (first | omega | (simp; done) | (simp; omega))) | (with_reducible refine Below.setCell ?_ ?hB _; case hB => (first | omega | (simp; done) | (simp; omega))) | (with_reducible refine Below.trans ?_ (Below.mono (by assumption) ?hB); case hB => (first | omega | (simp; done) | (simp; omega))))))
              case measure => simp [intOf]
          · have ia := fun w => arr_3 n1 n2 n3 n4 n5 m1 m2 m3 m4 m5 w
            have ip := fun w => par_1 q1 q2 o1 o2 w
            obtain ⟨D, hD⟩ : ∃ D, rtI ((p1 - o1) * (p1 - o1) + (p2 - o2) * (p2 - o2)) = D := ⟨_, rfl⟩
            have nr := pts_near _ _ _ _ _ _ HE.out H3.out
            have D0 : 0 ≤ D ∧ D ≤ 67108864 := by
              have s1 := sqb (p1 - o1) 33554432 nr.1.1 nr.1.2
              have s2 := sqb (p2 - o2) 33554432 nr.2.1 nr.2.2
              have r := rtI_spec ((p1 - o1) * (p1 - o1) + (p2 - o2) * (p2 - o2)) (by omega)
              rw [hD] at r
              exact ⟨r.1, le_of_sq (by decide) (by omega)⟩
            obtain ⟨D1, D2⟩ := D0
            have DC : Hid (∀ w, Calls Try.prog 15 #[ptV p1 p2, ptV o1 o2] w fun e w' => e = .returned (.int .i64 D) ∧ Below w.heap.size w w') := show ∀ w, _ from by intro w; have := dist_c p1 p2 o1 o2 nr.1 nr.2 w; rw [hD] at this; exact this
            have wa : wrap64 (D + 1) = D + 1 := by unfold wrap64; omega
            have wb : wrap64 (D + 1 + wd) = D + 1 + wd := by unfold wrap64; omega
            have wc : wrap64 (D - wd) = D - wd := by unfold wrap64; omega
            have hD2 := Lib.hid hD
            clear nr hD
            go_wp2_with fail
            refine (DC.out _).mono ?_; rintro e w1 ⟨rfl, hb1⟩; have z_w1 := hb1.size; (try simp at z_w1); obtain ⟨y_w1_0_0, c_w1_0_0, f_w1_0_0, r_w1_0_0, t_w1_0_0, p_w1_0_0⟩ := bk hb1 (w.heap.size) (by first | omega | (simp; done) | (simp; omega) | fail); obtain ⟨y_w1_0_1, c_w1_0_1, f_w1_0_1, r_w1_0_1, t_w1_0_1, p_w1_0_1⟩ := bk hb1 (w.heap.size + 1) (by first | omega | (simp; done) | (simp; omega) | fail); obtain ⟨y_w1_0_2, c_w1_0_2, f_w1_0_2, r_w1_0_2, t_w1_0_2, p_w1_0_2⟩ := bk hb1 (w.heap.size + 1 + 1) (by first | omega | (simp; done) | (simp; omega) | fail); obtain ⟨y_w1_0_3, c_w1_0_3, f_w1_0_3, r_w1_0_3, t_w1_0_3, p_w1_0_3⟩ := bk hb1 (w.heap.size + 1 + 1 + 1) (by first | omega | (simp; done) | (simp; omega) | fail); obtain ⟨y_w1_0_4, c_w1_0_4, f_w1_0_4, r_w1_0_4, t_w1_0_4, p_w1_0_4⟩ := bk hb1 (w.heap.size + 1 + 1 + 1 + 1) (by first | omega | (simp; done) | (simp; omega) | fail); obtain ⟨y_w1_0_5, c_w1_0_5, f_w1_0_5, r_w1_0_5, t_w1_0_5, p_w1_0_5⟩ := bk hb1 (w.heap.size + 1 + 1 + 1 + 1 + 1) (by first | omega | (simp; done) | (simp; omega) | fail); obtain ⟨y_w1_1_0, c_w1_1_0, f_w1_1_0, r_w1_1_0, t_w1_1_0, p_w1_1_0⟩ := bk hb1 (wr.heap.size) (by first | omega | (simp; done) | (simp; omega) | fail); obtain ⟨y_w1_1_1, c_w1_1_1, f_w1_1_1, r_w1_1_1, t_w1_1_1, p_w1_1_1⟩ := bk hb1 (wr.heap.size + 1) (by first | omega | (simp; done) | (simp; omega) | fail)
            by_cases hm : 4194304 < D + 1 + wd
            · go_wp2_with fail
              refine (awake8_c _).mono ?_; rintro e w9 ⟨rfl, hb9⟩
              have z9 := hb9.size
              go_wp2
              go_ret
              exact ⟨rfl, (by repeat (first | with_reducible exact Below.refl _ _ | with_reducible exact Below_of_hid (by assumption) | with_reducible refine Below.drew ?_ | with_reducible refine below_drewN ?_ _ | (with_reducible refine Below_putRow ?_ ?hB _ _; case hB => (first | omega | (simp; done) | (simp; omega))) | (with_reducible refine Below.alloc ?_ ?hB _; case hB => (first | omega | (simp; done) | (simp; omega))) | (with_reducible refine Below.setCell ?_ ?hB _; case hB => (first | omega | (simp; done) | (simp; omega))) | (with_reducible refine Below.trans ?_ (Below.mono (by assumption) ?hB); case hB => (first | omega | (simp; done) | (simp; omega)))))⟩
            · obtain ⟨⟨fx, fy, fa, fb, fd⟩, kf, hu⟩ : ∃ o k, updE ⟨ex, ey, ea, eb, ed⟩ ⟨m1, m2, m3, m4, m5⟩ (max 0 (D - wd)) (D + 1 + wd) = (o, k) := ⟨_, _, rfl⟩
              obtain ⟨rfl, hf, ht⟩ := again_step _ _ _ _ _ _ wd D HE.out H3.out wd1 hD2.out (by omega) hu
              obtain ⟨tf, htf⟩ : ∃ t, El.tr ⟨fx, fy, fa, fb, fd⟩ = t := ⟨_, rfl⟩
              rw [htf, HT.out] at ht
              have HU := Lib.hid hu
              have HF := Lib.hid hf
              have TF := Lib.hid htf
              have nt : ¬ t < tf := by omega
              clear hu hf htf
              go_wp2_with fail
              refine (upd_v _ _ _ _ _ _ _ _ _ _ _ _ _ _ _ _ _ _ HU.out _).mono ?_; rintro e w2 ⟨rfl, hb2⟩; have z_w2 := hb2.size; (try simp at z_w2); obtain ⟨y_w2_0_0, c_w2_0_0, f_w2_0_0, r_w2_0_0, t_w2_0_0, p_w2_0_0⟩ := bk hb2 (w.heap.size) (by first | omega | (simp; done) | (simp; omega) | fail); obtain ⟨y_w2_0_1, c_w2_0_1, f_w2_0_1, r_w2_0_1, t_w2_0_1, p_w2_0_1⟩ := bk hb2 (w.heap.size + 1) (by first | omega | (simp; done) | (simp; omega) | fail); obtain ⟨y_w2_0_2, c_w2_0_2, f_w2_0_2, r_w2_0_2, t_w2_0_2, p_w2_0_2⟩ := bk hb2 (w.heap.size + 1 + 1) (by first | omega | (simp; done) | (simp; omega) | fail); obtain ⟨y_w2_0_3, c_w2_0_3, f_w2_0_3, r_w2_0_3, t_w2_0_3, p_w2_0_3⟩ := bk hb2 (w.heap.size + 1 + 1 + 1) (by first | omega | (simp; done) | (simp; omega) | fail); obtain ⟨y_w2_0_4, c_w2_0_4, f_w2_0_4, r_w2_0_4, t_w2_0_4, p_w2_0_4⟩ := bk hb2 (w.heap.size + 1 + 1 + 1 + 1) (by first | omega | (simp; done) | (simp; omega) | fail); obtain ⟨y_w2_0_5, c_w2_0_5, f_w2_0_5, r_w2_0_5, t_w2_0_5, p_w2_0_5⟩ := bk hb2 (w.heap.size + 1 + 1 + 1 + 1 + 1) (by first | omega | (simp; done) | (simp; omega) | fail); obtain ⟨y_w2_1_0, c_w2_1_0, f_w2_1_0, r_w2_1_0, t_w2_1_0, p_w2_1_0⟩ := bk hb2 (wr.heap.size) (by first | omega | (simp; done) | (simp; omega) | fail); obtain ⟨y_w2_1_1, c_w2_1_1, f_w2_1_1, r_w2_1_1, t_w2_1_1, p_w2_1_1⟩ := bk hb2 (wr.heap.size + 1) (by first | omega | (simp; done) | (simp; omega) | fail)
              go_wp2_with fail
              refine (ellin_v _ _ _ _ _ _ _ _ HF.out _).mono ?_; rintro e w3 ⟨rfl, hb3⟩; have z_w3 := hb3.size; (try simp at z_w3); obtain ⟨y_w3_0_0, c_w3_0_0, f_w3_0_0, r_w3_0_0, t_w3_0_0, p_w3_0_0⟩ := bk hb3 (w.heap.size) (by first | omega | (simp; done) | (simp; omega) | fail); obtain ⟨y_w3_0_1, c_w3_0_1, f_w3_0_1, r_w3_0_1, t_w3_0_1, p_w3_0_1⟩ := bk hb3 (w.heap.size + 1) (by first | omega | (simp; done) | (simp; omega) | fail); obtain ⟨y_w3_0_2, c_w3_0_2, f_w3_0_2, r_w3_0_2, t_w3_0_2, p_w3_0_2⟩ := bk hb3 (w.heap.size + 1 + 1) (by first | omega | (simp; done) | (simp; omega) | fail); obtain ⟨y_w3_0_3, c_w3_0_3, f_w3_0_3, r_w3_0_3, t_w3_0_3, p_w3_0_3⟩ := bk hb3 (w.heap.size + 1 + 1 + 1) (by first | omega | (simp; done) | (simp; omega) | fail); obtain ⟨y_w3_0_4, c_w3_0_4, f_w3_0_4, r_w3_0_4, t_w3_0_4, p_w3_0_4⟩ := bk hb3 (w.heap.size + 1 + 1 + 1 + 1) (by first | omega | (simp; done) | (simp; omega) | fail); obtain ⟨y_w3_0_5, c_w3_0_5, f_w3_0_5, r_w3_0_5, t_w3_0_5, p_w3_0_5⟩ := bk hb3 (w.heap.size + 1 + 1 + 1 + 1 + 1) (by first | omega | (simp; done) | (simp; omega) | fail); obtain ⟨y_w3_1_0, c_w3_1_0, f_w3_1_0, r_w3_1_0, t_w3_1_0, p_w3_1_0⟩ := bk hb3 (w2.heap.size) (by first | omega | (simp; done) | (simp; omega) | fail)
              go_wp2_with fail
              refine (trace_v _ _ _ _ _ _ TF.out _).mono ?_; rintro e w4 ⟨rfl, hb4⟩; have z_w4 := hb4.size; (try simp at z_w4); obtain ⟨y_w4_0_0, c_w4_0_0, f_w4_0_0, r_w4_0_0, t_w4_0_0, p_w4_0_0⟩ := bk hb4 (w.heap.size) (by first | omega | (simp; done) | (simp; omega) | fail); obtain ⟨y_w4_0_1, c_w4_0_1, f_w4_0_1, r_w4_0_1, t_w4_0_1, p_w4_0_1⟩ := bk hb4 (w.heap.size + 1) (by first | omega | (simp; done) | (simp; omega) | fail); obtain ⟨y_w4_0_2, c_w4_0_2, f_w4_0_2, r_w4_0_2, t_w4_0_2, p_w4_0_2⟩ := bk hb4 (w.heap.size + 1 + 1) (by first | omega | (simp; done) | (simp; omega) | fail); obtain ⟨y_w4_0_3, c_w4_0_3, f_w4_0_3, r_w4_0_3, t_w4_0_3, p_w4_0_3⟩ := bk hb4 (w.heap.size + 1 + 1 + 1) (by first | omega | (simp; done) | (simp; omega) | fail); obtain ⟨y_w4_0_4, c_w4_0_4, f_w4_0_4, r_w4_0_4, t_w4_0_4, p_w4_0_4⟩ := bk hb4 (w.heap.size + 1 + 1 + 1 + 1) (by first | omega | (simp; done) | (simp; omega) | fail); obtain ⟨y_w4_0_5, c_w4_0_5, f_w4_0_5, r_w4_0_5, t_w4_0_5, p_w4_0_5⟩ := bk hb4 (w.heap.size + 1 + 1 + 1 + 1 + 1) (by first | omega | (simp; done) | (simp; omega) | fail); obtain ⟨y_w4_1_0, c_w4_1_0, f_w4_1_0, r_w4_1_0, t_w4_1_0, p_w4_1_0⟩ := bk hb4 (w2.heap.size) (by first | omega | (simp; done) | (simp; omega) | fail)
              have G0 : Hid (Blk w4 w.heap.size #[.int .i64 ex, .int .i64 ey, .int .i64 ea, .int .i64 eb, .int .i64 ed] 27) := (((((((C0.out.alloc _).alloc _).keep hb1).keep hb2).alloc _).keep hb3).keep hb4)
              have G3 : Hid (Blk w4 (w.heap.size + 1 + 1 + 1) #[.int .i64 p1, .int .i64 p2] 23) := (((((((C3.out.alloc _).alloc _).keep hb1).keep hb2).alloc _).keep hb3).keep hb4)
              have G4 : Hid (Blk w4 (w.heap.size + 1 + 1 + 1 + 1) #[.int .i64 q1, .int .i64 q2] 23) := (((((((C4.out.alloc _).alloc _).keep hb1).keep hb2).alloc _).keep hb3).keep hb4)
              have G5 : Hid (Blk w4 (w.heap.size + 1 + 1 + 1 + 1 + 1) #[.int .i64 o1, .int .i64 o2] 23) := (((((((C5.out.alloc _).alloc _).keep hb1).keep hb2).alloc _).keep hb3).keep hb4)
              have GF : Hid (Blk w4 w2.heap.size #[.int .i64 fx, .int .i64 fy, .int .i64 fa, .int .i64 fb, .int .i64 fd] 27) := ((Blk.new w2 _ _).keep hb3).keep hb4
              have HG : Hid (Below w.heap.size w w4) := (show Below _ _ _ from (by repeat (first | with_reducible exact Below.refl _ _ | with_reducible exact Below_of_hid (by assumption) | with_reducible refine Below.drew ?_ | with_reducible refine below_drewN ?_ _ | (with_reducible refine Below_putRow ?_ ?hB _ _; case hB => (first | omega | (simp; done) | (simp; omega))) | (with_reducible refine Below.alloc ?_ ?hB _; case hB => (first | omega | (simp; done) | (simp; omega))) | (with_reducible refine Below.setCell ?_ ?hB _; case hB => (first | omega | (simp; done) | (simp; omega))) | (with_reducible refine Below.trans ?_ (Below.mono (by assumption) ?hB); case hB => (first | omega | (simp; done) | (simp; omega))))))
              go_wp2_with fail
              have ne2 : ¬ (w2.heap.size = w.heap.size) := by omega
              clear z_w4 y_w4_0_0 c_w4_0_0 f_w4_0_0 r_w4_0_0 t_w4_0_0 p_w4_0_0 y_w4_0_1 c_w4_0_1 f_w4_0_1 r_w4_0_1 t_w4_0_1 p_w4_0_1 y_w4_0_2 c_w4_0_2 f_w4_0_2 r_w4_0_2 t_w4_0_2 p_w4_0_2 y_w4_0_3 c_w4_0_3 f_w4_0_3 r_w4_0_3 t_w4_0_3 p_w4_0_3 y_w4_0_4 c_w4_0_4 f_w4_0_4 r_w4_0_4 t_w4_0_4 p_w4_0_4 y_w4_0_5 c_w4_0_5 f_w4_0_5 r_w4_0_5 t_w4_0_5 p_w4_0_5 y_w4_1_0 c_w4_1_0 f_w4_1_0 r_w4_1_0 t_w4_1_0 p_w4_1_0
              clear z_w3 y_w3_0_0 c_w3_0_0 f_w3_0_0 r_w3_0_0 t_w3_0_0 p_w3_0_0 y_w3_0_1 c_w3_0_1 f_w3_0_1 r_w3_0_1 t_w3_0_1 p_w3_0_1 y_w3_0_2 c_w3_0_2 f_w3_0_2 r_w3_0_2 t_w3_0_2 p_w3_0_2 y_w3_0_3 c_w3_0_3 f_w3_0_3 r_w3_0_3 t_w3_0_3 p_w3_0_3 y_w3_0_4 c_w3_0_4 f_w3_0_4 r_w3_0_4 t_w3_0_4 p_w3_0_4 y_w3_0_5 c_w3_0_5 f_w3_0_5 r_w3_0_5 t_w3_0_5 p_w3_0_5 y_w3_1_0 c_w3_1_0 f_w3_1_0 r_w3_1_0 t_w3_1_0 p_w3_1_0
              clear z_w2 y_w2_0_0 c_w2_0_0 f_w2_0_0 r_w2_0_0 t_w2_0_0 p_w2_0_0 y_w2_0_1 c_w2_0_1 f_w2_0_1 r_w2_0_1 t_w2_0_1 p_w2_0_1 y_w2_0_2 c_w2_0_2 f_w2_0_2 r_w2_0_2 t_w2_0_2 p_w2_0_2 y_w2_0_3 c_w2_0_3 f_w2_0_3 r_w2_0_3 t_w2_0_3 p_w2_0_3 y_w2_0_4 c_w2_0_4 f_w2_0_4 r_w2_0_4 t_w2_0_4 p_w2_0_4 y_w2_0_5 c_w2_0_5 f_w2_0_5 r_w2_0_5 t_w2_0_5 p_w2_0_5 y_w2_1_0 c_w2_1_0 f_w2_1_0 r_w2_1_0 t_w2_1_0 p_w2_1_0 y_w2_1_1 c_w2_1_1 f_w2_1_1 r_w2_1_1 t_w2_1_1 p_w2_1_1
              clear z_w1 y_w1_0_0 c_w1_0_0 f_w1_0_0 r_w1_0_0 t_w1_0_0 p_w1_0_0 y_w1_0_1 c_w1_0_1 f_w1_0_1 r_w1_0_1 t_w1_0_1 p_w1_0_1 y_w1_0_2 c_w1_0_2 f_w1_0_2 r_w1_0_2 t_w1_0_2 p_w1_0_2 y_w1_0_3 c_w1_0_3 f_w1_0_3 r_w1_0_3 t_w1_0_3 p_w1_0_3 y_w1_0_4 c_w1_0_4 f_w1_0_4 r_w1_0_4 t_w1_0_4 p_w1_0_4 y_w1_0_5 c_w1_0_5 f_w1_0_5 r_w1_0_5 t_w1_0_5 p_w1_0_5 y_w1_1_0 c_w1_1_0 f_w1_1_0 r_w1_1_0 t_w1_1_0 p_w1_1_0 y_w1_1_1 c_w1_1_1 f_w1_1_1 r_w1_1_1 t_w1_1_1 p_w1_1_1
              clear hb1 hb2 hb3 hb4 C0 C3 C4 C5 HC c0 f0 y0 c3 f3 y3 c4 f4 y4 c5 f5 y5 hbc
              obtain ⟨y0, c0, f0, -⟩ := bk_facts8 G0.out
              have XX : Blk w4 w2.heap.size #[.int .i64 fx, .int .i64 fy, .int .i64 fa, .int .i64 fb, .int .i64 fd] 27 := GF.out
              have rr := el_cells5 XX
              go_region_held3 (fun w' => w'.cell? ⟨w2.heap.size, 0, none⟩ = some (.int .i64 fx) ∧ w'.cell? ⟨w2.heap.size, 1, none⟩ = some (.int .i64 fy) ∧ w'.cell? ⟨w2.heap.size, 2, none⟩ = some (.int .i64 fa) ∧ w'.cell? ⟨w2.heap.size, 3, none⟩ = some (.int .i64 fb) ∧ w'.cell? ⟨w2.heap.size, 4, none⟩ = some (.int .i64 fd)) (first | with_reducible exact rr | (with_reducible refine el_cells5 (t := 27) ?_; (repeat (first | with_reducible exact XX | with_reducible refine Blk.drew ?_ | with_reducible refine Blk.alloc ?_ _ | (with_reducible refine Blk.setCell_other ?_ ?hB _; case hB => exact ne2))); done) | go_simp)
                (first | (go_at_call 13; refine (trace_v _ _ _ _ _ _ TF.out _).mono ?_; rintro e w5 ⟨rfl, hb5⟩; have XX : Blk w5 w2.heap.size #[.int .i64 fx, .int .i64 fy, .int .i64 fa, .int .i64 fb, .int .i64 fd] 27 := (by (with_reducible refine Blk.keep ?_ hb5); (repeat (first | with_reducible exact XX | with_reducible refine Blk.drew ?_ | with_reducible refine Blk.alloc ?_ _))); have rr := el_cells5 XX; have G9 : Blk w5 w.heap.size #[.int .i64 ex, .int .i64 ey, .int .i64 ea, .int .i64 eb, .int .i64 ed] 27 := Blk.keep (Blk.drew G0.out) hb5; obtain ⟨y6, c6, f6, -⟩ := bk_facts8 G9))
              have K3 := Blk.keep (Blk.drew G3.out) hb5
              have K4 := Blk.keep (Blk.drew G4.out) hb5
              have K5 := Blk.keep (Blk.drew G5.out) hb5
              have hbg := HG.out
              have sg := hbg.size
              have s5 := hb5.size
              go_wp2_with fail
              go_roundw
              case rel =>
                refine ⟨4, tf, fx, fy, fa, fb, fd, by decide, by go_num, rfl, HF, TF, ?_, ?_, ?_, ?_, ?_⟩
                · show Blk _ _ _ _
                  apply Blk.of_eq
                  · repeat (first | with_reducible exact G9 | with_reducible apply Blk.drew | with_reducible apply Blk.setCell_same)
                  · rfl
                · exact (show Blk _ _ _ _ from (by repeat (first | with_reducible exact K3 | with_reducible refine Blk.drew ?_ | (with_reducible refine Blk.setCell_other ?_ ?hB _; case hB => (simp only; omega)))))
                · exact (show Blk _ _ _ _ from (by repeat (first | with_reducible exact K4 | with_reducible refine Blk.drew ?_ | (with_reducible refine Blk.setCell_other ?_ ?hB _; case hB => (simp only; omega)))))
                · exact (show Blk _ _ _ _ from (by repeat (first | with_reducible exact K5 | with_reducible refine Blk.drew ?_ | (with_reducible refine Blk.setCell_other ?_ ?hB _; case hB => (simp only; omega)))))
                · exact (show Below _ _ _ from (by repeat (first | with_reducible exact Below.refl _ _ | with_reducible exact Below_of_hid (by assumption) | with_reducible refine Below.drew ?_ | with_reducible refine below_drewN ?_ _ | (with_reducible refine Below_putRow ?_ ?hB _ _; case hB => (first | omega | (simp; done) | (simp; omega))) | (with_reducible refine Below.alloc ?_ ?hB _; case hB => (first | omega | (simp; done) | (simp; omega))) | (with_reducible refine Below.setCell ?_ ?hB _; case hB => (first | omega | (simp; done) | (simp; omega))) | (with_reducible refine Below.trans ?_ (Below.mono (by assumption) ?hB); case hB => (first | omega | (simp; done) | (simp; omega))))))
              case measure => simp [intOf]
          · go_wp2_with fail
            refine (awake8_c _).mono ?_; rintro e w9 ⟨rfl, hb9⟩
            have z9 := hb9.size
            go_wp2
            go_ret
            exact ⟨rfl, (by repeat (first | with_reducible exact Below.refl _ _ | with_reducible exact Below_of_hid (by assumption) | with_reducible refine Below.drew ?_ | with_reducible refine below_drewN ?_ _ | (with_reducible refine Below_putRow ?_ ?hB _ _; case hB => (first | omega | (simp; done) | (simp; omega))) | (with_reducible refine Below.alloc ?_ ?hB _; case hB => (first | omega | (simp; done) | (simp; omega))) | (with_reducible refine Below.setCell ?_ ?hB _; case hB => (first | omega | (simp; done) | (simp; omega))) | (with_reducible refine Below.trans ?_ (Below.mono (by assumption) ?hB); case hB => (first | omega | (simp; done) | (simp; omega)))))⟩
end Go.Proofs.Ytfohihjeemmedaa
