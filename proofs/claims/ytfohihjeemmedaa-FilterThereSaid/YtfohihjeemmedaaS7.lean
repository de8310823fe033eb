/- The walk of FilterThere. -/
import Derived.Test.YtfohihjeemmedaaS5
import Derived.Test.YtfohihjeemmedaaSl
namespace Go.Proofs.Ytfohihjeemmedaa
open Go.RowKit

/-- The steps' sums. -/
def sumU (U : Nat → Int × Int) : Nat → Int × Int
  | 0 => (0, 0)
  | i + 1 => ((sumU U i).1 + (U i).1, (sumU U i).2 + (U i).2)
/-- A step that is so. -/
theorem move_ok {m : Int} {e e1 : El} {v1 : Bool} {u w r : Int} (h : moveS m true e u w r = ((v1, e1), 0)) : v1 = true ∧ shiftE e u w = (e.sh u w, 0) ∧ (e.sh u w).may = true ∧ growE (e.sh u w) r = (e1, 0) := by
  obtain ⟨s, ks, hs⟩ : ∃ o k, shiftE e u w = (o, k) := ⟨_, _, rfl⟩
  obtain ⟨g, kg, hg⟩ : ∃ o k, growE s r = (o, k) := ⟨_, _, rfl⟩
  rcases move_cases m e s g u w r ks kg hs hg with ⟨k0, -, hv⟩ | ⟨-, hv⟩ | ⟨-, k0, -, hv⟩ | ⟨-, -, hv⟩ | ⟨-, -, -, hv⟩ | ⟨k0, k1, -, hv⟩
  · rw [h] at hv; injection hv with _ h2; omega
  · rw [h] at hv; injection hv with _ h2; cases h2
  · rw [h] at hv; injection hv with _ h2; omega
  · rw [h] at hv; injection hv with _ h2; cases h2
  · rw [h] at hv; injection hv with _ h2; cases h2
  · subst k0; subst k1
    obtain ⟨h1, h2, h3, -⟩ := shift_ok hs
    subst h2
    rw [h] at hv
    unfold setS at hv
    split at hv
    · split at hv
      · injection hv with _ h2; cases h2
      · injection hv with h4 _; injection h4 with h5 h6
        subst h5; subst h6
        exact ⟨rfl, hs, h3, hg⟩
    · injection hv with _ h2; cases h2
theorem sh_has {e : El} {p q u w : Int} (h : e.has p q = true) (hm : (e.sh u w).may = true) : (e.sh u w).has (p + u) (q + w) = true := by
  have n := El.near e p q h
  have m := ((El.may_iff _).1 hm).1
  have hh := ((El.has_iff _ _ _).1 h).2.2
  have e1 : (e.sh u w).x = e.x + u := rfl
  have e2 : (e.sh u w).y = e.y + w := rfl
  refine (El.has_iff _ _ _).2 ⟨hm, ?_, ?_⟩
  · rw [e1, e2] at m; omega
  · show holdsB e.a e.b e.d (p + u - (e.x + u)) (q + w - (e.y + w)) = true
    rw [show p + u - (e.x + u) = p - e.x by omega, show q + w - (e.y + w) = q - e.y by omega]; exact hh
/-- The one that is told without an error. -/
theorem there_f {m : Int} {e e1 : El} {v1 : Bool} {u w : Int} (h : moveS m true e u w 0 = ((v1, e1), 0)) : v1 = true ∧ e1 = e.sh u w := by
  obtain ⟨h1, -, h3, h4⟩ := move_ok h
  rw [growE_zero _ h3] at h4
  injection h4 with h5 _
  exact ⟨h1, h5.symm⟩
/-- The other. -/
theorem there_g {m : Int} {e e1 : El} {v1 : Bool} {u w r p q : Int} (hp : e.has p q = true) (h : moveS m true e u w r = ((v1, e1), 0)) : v1 = true ∧ e1.x = e.x + u ∧ e1.y = e.y + w ∧ e1.has (p + u) (q + w) = true := by
  obtain ⟨h1, -, h3, h4⟩ := move_ok h
  have hc := grow_centre h4
  have hh := grow_holds h4 (p + u) (q + w) 0 0 (sh_has hp h3) (by have := int_sq_nonneg r; omega)
  rw [Int.add_zero, Int.add_zero] at hh
  exact ⟨h1, hc.1, hc.2.1, hh⟩
theorem set_first {e e1 : El} {v1 : Bool} {k : Int} (h : setS 70368744177664 false El.zero e = ((v1, e1), k)) : (¬ k = 0) ∨ (k = 0 ∧ v1 = true ∧ e1 = e) := by
  unfold setS at h
  split at h
  · split at h
    · injection h with _ h2; exact .inl (by omega)
    · injection h with h1 h2; injection h1 with h3 h4; exact .inr ⟨h2.symm, h3.symm, h4.symm⟩
  · injection h with _ h2; exact .inl (by omega)
set_option maxRecDepth 100000 in
set_option maxHeartbeats 16000000 in
theorem filterThere_c (x y a b d p q : Int) (A : Option Addr) (len cap : Nat) (T : Nat → Int × Int) (err : Int) (w : World) (hT : PtsAt w A len T) (hlen : len ≤ 9223372036854775807) :
    Calls Try.prog 6 #[elC x y a b d, ptV p q, .slice A len cap, .int .i64 err] w fun e w' => e = .returned (.bool true) ∧ Below w.heap.size w w' := by
  have HT := Lib.hid hT
  clear hT
  cases h1 : El.has ⟨x, y, a, b, d⟩ p q with
  | false =>
    have H1 := Lib.hid h1
    clear h1
    go_enter Try.func6, Try.ntmps6
    go_wp2_with fail
    refine (ellin_v _ _ _ _ _ _ _ _ H1.out _).mono ?_; rintro e w1 ⟨rfl, hb1⟩
    have z1 := hb1.size; (try simp at z1)
    go_wp2_with fail
    refine (awake18_c _).mono ?_; rintro e w9 ⟨rfl, hb9⟩
    have z9 := hb9.size
    go_wp2
    go_ret
    exact ⟨rfl, (by repeat (first | with_reducible exact Below.refl _ _ | with_reducible exact Below_of_hid (by assumption) | with_reducible refine Below.drew ?_ | with_reducible refine below_drewN ?_ _ | (with_reducible refine Below_putRow ?_ ?hB _ _; case hB => (first | omega | (simp; done) | (simp; omega))) | (with_reducible refine Below.alloc ?_ ?hB _; case hB => (first | omega | (simp; done) | (simp; omega))) | (with_reducible refine Below.setCell ?_ ?hB _; case hB => (first | omega | (simp; done) | (simp; omega))) | (with_reducible refine Below.trans ?_ (Below.mono (by assumption) ?hB); case hB => (first | omega | (simp; done) | (simp; omega)))))⟩
  | true =>
    have H1 := Lib.hid h1
    by_cases h15 : 15 < len
    · have h15' : (15 : Int) < (len : Int) := by omega
      clear h1
      go_enter Try.func6, Try.ntmps6
      go_wp2_with fail
      refine (ellin_v _ _ _ _ _ _ _ _ H1.out _).mono ?_; rintro e w1 ⟨rfl, hb1⟩
      have z1 := hb1.size; (try simp at z1)
      go_wp2_with fail
      refine (awake18_c _).mono ?_; rintro e w9 ⟨rfl, hb9⟩
      have z9 := hb9.size
      go_wp2
      go_ret
      exact ⟨rfl, (by repeat (first | with_reducible exact Below.refl _ _ | with_reducible exact Below_of_hid (by assumption) | with_reducible refine Below.drew ?_ | with_reducible refine below_drewN ?_ _ | (with_reducible refine Below_putRow ?_ ?hB _ _; case hB => (first | omega | (simp; done) | (simp; omega))) | (with_reducible refine Below.alloc ?_ ?hB _; case hB => (first | omega | (simp; done) | (simp; omega))) | (with_reducible refine Below.setCell ?_ ?hB _; case hB => (first | omega | (simp; done) | (simp; omega))) | (with_reducible refine Below.trans ?_ (Below.mono (by assumption) ?hB); case hB => (first | omega | (simp; done) | (simp; omega)))))⟩
    · have h15' : ¬ (15 : Int) < (len : Int) := by omega
      obtain ⟨E0, hE0⟩ : ∃ K, wrap64 ((IntKind.u64.wrap err).tmod 50) = K := ⟨_, rfl⟩
      obtain ⟨⟨v1, e1⟩, k0, hs⟩ : ∃ o k, setS 70368744177664 false El.zero ⟨x, y, a, b, d⟩ = (o, k) := ⟨_, _, rfl⟩
      have SF := set_first hs
      have hmax : max (2 : Int) 70368744177664 = 70368744177664 := by decide
      clear h1
      go_enter Try.func6, Try.ntmps6
      go_wp2_with fail
      refine (ellin_v _ _ _ _ _ _ _ _ H1.out _).mono ?_; rintro e w1 ⟨rfl, hb1⟩; have z_w1 := hb1.size; (try simp at z_w1); obtain ⟨y_w1_0_0, c_w1_0_0, f_w1_0_0, r_w1_0_0, t_w1_0_0, p_w1_0_0⟩ := bk hb1 (w.heap.size) (by first | omega | (simp; done) | (simp; omega) | fail); obtain ⟨y_w1_0_1, c_w1_0_1, f_w1_0_1, r_w1_0_1, t_w1_0_1, p_w1_0_1⟩ := bk hb1 (w.heap.size + 1) (by first | omega | (simp; done) | (simp; omega) | fail)
      go_wp2_with fail
      refine (new_c _ _).mono ?_; rintro e w2 ⟨g, rfl, lg, B1, hb2⟩; have z_w2 := hb2.size; (try simp at z_w2); obtain ⟨y_w2_0_0, c_w2_0_0, f_w2_0_0, r_w2_0_0, t_w2_0_0, p_w2_0_0⟩ := bk hb2 (w.heap.size) (by first | omega | (simp; done) | (simp; omega) | fail); obtain ⟨y_w2_0_1, c_w2_0_1, f_w2_0_1, r_w2_0_1, t_w2_0_1, p_w2_0_1⟩ := bk hb2 (w.heap.size + 1) (by first | omega | (simp; done) | (simp; omega) | fail)
      rw [hmax] at B1
      go_wp2_with fail
      refine (new_c _ _).mono ?_; rintro e w3 ⟨h, rfl, lh, B2, hb3⟩; have z_w3 := hb3.size; (try simp at z_w3); obtain ⟨y_w3_0_0, c_w3_0_0, f_w3_0_0, r_w3_0_0, t_w3_0_0, p_w3_0_0⟩ := bk hb3 (w.heap.size) (by first | omega | (simp; done) | (simp; omega) | fail); obtain ⟨y_w3_0_1, c_w3_0_1, f_w3_0_1, r_w3_0_1, t_w3_0_1, p_w3_0_1⟩ := bk hb3 (w.heap.size + 1) (by first | omega | (simp; done) | (simp; omega) | fail)
      rw [hmax] at B2
      have C1 := Lib.hid (B1.keep hb3)
      have C2 := Lib.hid B2
      have X0 : Hid (Blk w3 w.heap.size #[.int .i64 x, .int .i64 y, .int .i64 a, .int .i64 b, .int .i64 d] 27) := ((((Blk.new w _ _).alloc _).keep hb1).keep hb2).keep hb3
      have X1 : Hid (Blk w3 (w.heap.size + 1) #[.int .i64 p, .int .i64 q] 23) := (((Blk.new' (w.alloc _) _ _ (by simp)).keep hb1).keep hb2).keep hb3
      have HB : Hid (Below w.heap.size w w3) := (show Below _ _ _ from (by repeat (first | with_reducible exact Below.refl _ _ | with_reducible exact Below_of_hid (by assumption) | with_reducible refine Below.drew ?_ | with_reducible refine below_drewN ?_ _ | (with_reducible refine Below_putRow ?_ ?hB _ _; case hB => (first | omega | (simp; done) | (simp; omega))) | (with_reducible refine Below.alloc ?_ ?hB _; case hB => (first | omega | (simp; done) | (simp; omega))) | (with_reducible refine Below.setCell ?_ ?hB _; case hB => (first | omega | (simp; done) | (simp; omega))) | (with_reducible refine Below.trans ?_ (Below.mono (by assumption) ?hB); case hB => (first | omega | (simp; done) | (simp; omega))))))
      have l1 := B1.lt
      have lg2 : w.heap.size + 1 < g := by omega
      have gh : ¬ (g = h) := by omega
      have hg : ¬ (h = g) := by omega
      have n0 : ¬ (w.heap.size = g) := by omega
      have n1 : ¬ (w.heap.size + 1 = g) := by omega
      have n2 : ¬ (w.heap.size = h) := by omega
      have n3 : ¬ (w.heap.size + 1 = h) := by omega
      go_wp2_with fail
      (try simp only [hE0])
      clear B1 B2 hb1 hb2 hb3
      clear z_w3 y_w3_0_0 c_w3_0_0 f_w3_0_0 r_w3_0_0 t_w3_0_0 p_w3_0_0 y_w3_0_1 c_w3_0_1 f_w3_0_1 r_w3_0_1 t_w3_0_1 p_w3_0_1
      clear z_w2 y_w2_0_0 c_w2_0_0 f_w2_0_0 r_w2_0_0 t_w2_0_0 p_w2_0_0 y_w2_0_1 c_w2_0_1 f_w2_0_1 r_w2_0_1 t_w2_0_1 p_w2_0_1
      clear z_w1 y_w1_0_0 c_w1_0_0 f_w1_0_0 r_w1_0_0 t_w1_0_0 p_w1_0_0 y_w1_0_1 c_w1_0_1 f_w1_0_1 r_w1_0_1 t_w1_0_1 p_w1_0_1
      refine Calls.mono (set_c g 70368744177664 false 0 0 0 0 0 x y a b d _ C1.out) ?_; rintro e w4 ⟨v1', e1', k', hq, rfl, ho4, hb4⟩
      obtain ⟨⟨rfl, rfl⟩, rfl⟩ : (v1 = v1' ∧ e1 = e1') ∧ k0 = k' := by
        rw [show El.zero = (⟨0, 0, 0, 0, 0⟩ : El) from rfl, hq] at hs
        injection hs with h2 h3; injection h2 with h4 h5; exact ⟨⟨h4.symm, h5.symm⟩, h3.symm⟩
      have D1 := Lib.hid hb4
      have D2 := Lib.hid (ho4.blk C2.out hg)
      have Y0 := Lib.hid (ho4.blk X0.out n0)
      have Y1 := Lib.hid (ho4.blk X1.out n1)
      have HB4 : Hid (Below w.heap.size w w4) := OnlyAt.below ho4 HB.out (Nat.le_refl _) (by omega)
      clear hb4 C1 C2 X0 X1 HB ho4
      obtain ⟨y0, c0, f0, -⟩ := bk_o Y0.out
      have hbw := HB4.out
      have sw := hbw.size
      rcases SF with k1 | ⟨rfl, rfl, rfl⟩
      · have b0 : (k0 == 0) = false := by simp [k1]
        have b1 : (k0 != 0) = true := by simp [k1]
        go_wp2_with fail
        refine (awake18_c _).mono ?_; rintro e w9 ⟨rfl, hb9⟩
        have z9 := hb9.size
        go_wp2
        go_ret
        exact ⟨rfl, (by repeat (first | with_reducible exact Below.refl _ _ | with_reducible exact Below_of_hid (by assumption) | with_reducible refine Below.drew ?_ | with_reducible refine below_drewN ?_ _ | (with_reducible refine Below_putRow ?_ ?hB _ _; case hB => (first | omega | (simp; done) | (simp; omega))) | (with_reducible refine Below.alloc ?_ ?hB _; case hB => (first | omega | (simp; done) | (simp; omega))) | (with_reducible refine Below.setCell ?_ ?hB _; case hB => (first | omega | (simp; done) | (simp; omega))) | (with_reducible refine Below.trans ?_ (Below.mono (by assumption) ?hB); case hB => (first | omega | (simp; done) | (simp; omega)))))⟩
      · go_wp2_with fail
        refine Calls.mono (set_c h 70368744177664 false 0 0 0 0 0 x y a b d _ D2.out) ?_; rintro e w5 ⟨v1', e1', k', hq2, rfl, ho5, hb5⟩
        obtain ⟨⟨rfl, rfl⟩, rfl⟩ : (true = v1' ∧ (⟨x, y, a, b, d⟩ : El) = e1') ∧ 0 = k' := by
          rw [hq] at hq2
          injection hq2 with h2 h3; injection h2 with h4 h5; exact ⟨⟨h4, h5⟩, h3⟩
        have E2 := Lib.hid hb5
        have E1 := Lib.hid (ho5.blk D1.out gh)
        have Z0 := Lib.hid (ho5.blk Y0.out n2)
        have Z1 := Lib.hid (ho5.blk Y1.out n3)
        have HB5 : Hid (Below w.heap.size w w5) := OnlyAt.below ho5 HB4.out (Nat.le_refl _) (by omega)
        clear hb5 D1 D2 Y0 Y1 HB4 ho5 y0 c0 f0 hbw sw hq hq2 hs
        obtain ⟨N, hN⟩ : ∃ N, 2 * len = N := ⟨_, rfl⟩

        go_wp2_with fail
        -- LOOP
        have gh2 : g < h := by omega
        obtain ⟨U, hU⟩ : ∃ U : Nat → Int × Int, ∀ i, U i = ((T i).1.tmod 1000, (T i).2.tmod 1000) := ⟨fun i => ((T i).1.tmod 1000, (T i).2.tmod 1000), fun _ => rfl⟩
        have HU := Lib.hid hU
        have hN15 : N ≤ 30 := by omega
        clear hU hE0 l1 lg lh
        go_loopw [43] (fun ti wr => ∃ (k : Nat) (sx sy fx fy gx gy ga gb gd : Int), k ≤ N ∧ ti = .int .i64 k ∧ Hid ((sx, sy) = sumU U (min k (N - k))) ∧ Hid (fx = x + sx ∧ fy = y + sy) ∧ Hid (gx = fx ∧ gy = fy ∧ El.has ⟨gx, gy, ga, gb, gd⟩ (p + sx) (q + sy) = true) ∧
          Hid (Blk wr g (flt 70368744177664 true fx fy a b d) 75) ∧ Hid (Blk wr h (flt 70368744177664 true gx gy ga gb gd) 75) ∧ Hid (Blk wr w.heap.size #[.int .i64 x, .int .i64 y, .int .i64 a, .int .i64 b, .int .i64 d] 27) ∧ Hid (Blk wr (w.heap.size + 1) #[.int .i64 p, .int .i64 q] 23) ∧ Hid (Below w.heap.size w wr)) (fun ti _ => N - (intOf ti).toNat)
        case atStart =>
          refine ⟨0, 0, 0, x, y, x, y, a, b, d, by omega, rfl, ?_, ?_, ?_, E1.out, E2.out, Z0.out, Z1.out, HB5.out⟩
          · show _ = _; rw [Nat.zero_min]; rfl
          · exact ⟨(Int.add_zero _).symm, (Int.add_zero _).symm⟩
          · exact ⟨rfl, rfl, by rw [Int.add_zero, Int.add_zero]; exact H1.out⟩
        case round =>
          obtain ⟨k, sx, sy, fx, fy, gx, gy, ga, gb, gd, hk, rfl, HS, HF, HG, B1, B2, B3, B4, HB⟩ := hrel
          clear E1 E2 Z0 Z1 HB5
          have sr := HB.out.size
          have l1 := B1.out.lt
          have l2 := B2.out.lt
          have l3 := B3.out.lt
          have l4 := B4.out.lt
          have lw : w.heap.size ≤ g := by omega
          have lw2 : w.heap.size ≤ h := by omega
          by_cases hlt : k < N
          · have k1 : (k : Int) < 2 * (len : Int) := by omega
            have k2 : (0 : Int) ≤ k := by omega
            have ng : ¬ (wr.heap.size = g) := by omega
            have nh : ¬ (wr.heap.size = h) := by omega
            by_cases hfirst : k < len
            · obtain ⟨mb, mo, rfl, hmb, hc1, hc2⟩ := HT.out k hfirst
              have kl : (k : Int) < (len : Int) := by omega
              obtain ⟨MX, hMX⟩ : ∃ z, (T k).1 = z := ⟨_, rfl⟩
              obtain ⟨MY, hMY⟩ : ∃ z, (T k).2 = z := ⟨_, rfl⟩
              rw [hMX] at hc1; rw [hMY] at hc2
              have mc1 : wr.cell? ⟨mb, mo + k * 2, none⟩ = some (.int .i64 MX) := (HB.out.cell (p := ⟨mb, mo + k * 2, none⟩) hmb).trans hc1
              have mc2 : wr.cell? ⟨mb, mo + k * 2 + 1, none⟩ = some (.int .i64 MY) := (HB.out.cell (p := ⟨mb, mo + k * 2 + 1, none⟩) hmb).trans hc2
              obtain ⟨ux, hux⟩ : ∃ z, MX.tmod 1000 = z := ⟨_, rfl⟩
              obtain ⟨uy, huy⟩ : ∃ z, MY.tmod 1000 = z := ⟨_, rfl⟩
              have NEXT : Hid ((sx + ux, sy + uy) = sumU U (min (k + 1) (N - (k + 1)))) := by
                show _ = _
                have h0 := HS.out
                rw [show min k (N - k) = k by omega] at h0
                rw [show min (k + 1) (N - (k + 1)) = k + 1 by omega]
                show _ = ((sumU U k).1 + (U k).1, (sumU U k).2 + (U k).2)
                rw [← h0, HU.out k, hMX, hMY, hux, huy]
              have mb1 : mb < wr.heap.size := Nat.lt_of_lt_of_le hmb sr
              clear hc1 hc2 hMX hMY
              go_wp2_with fail
              go_region
              go_wp2_with fail
              have G1 := Lib.hid (Blk.drew (B1.out.alloc (Obj.cells #[.int .i64 ux, .int .i64 uy] 23)))
              have G2 := Lib.hid (Blk.drew (B2.out.alloc (Obj.cells #[.int .i64 ux, .int .i64 uy] 23)))
              have G3 := Lib.hid (Blk.drew (B3.out.alloc (Obj.cells #[.int .i64 ux, .int .i64 uy] 23)))
              have G4 := Lib.hid (Blk.drew (B4.out.alloc (Obj.cells #[.int .i64 ux, .int .i64 uy] 23)))
              have GU : Hid (Blk ((wr.alloc (Obj.cells #[.int .i64 ux, .int .i64 uy] 23)).drew) wr.heap.size #[.int .i64 ux, .int .i64 uy] 23) := Blk.drew (Blk.new wr _ _)
              have HB6 : Hid (Below w.heap.size w ((wr.alloc (Obj.cells #[.int .i64 ux, .int .i64 uy] 23)).drew)) := (show Below _ _ _ from (by have hbw := HB.out; exact (by repeat (first | with_reducible exact Below.refl _ _ | with_reducible exact Below_of_hid (by assumption) | with_reducible refine Below.drew ?_ | with_reducible refine below_drewN ?_ _ | (with_reducible refine Below_putRow ?_ ?hB _ _; case hB => (first | omega | (simp; done) | (simp; omega))) | (with_reducible refine Below.alloc ?_ ?hB _; case hB => (first | omega | (simp; done) | (simp; omega))) | (with_reducible refine Below.setCell ?_ ?hB _; case hB => (first | omega | (simp; done) | (simp; omega))) | (with_reducible refine Below.trans ?_ (Below.mono (by assumption) ?hB); case hB => (first | omega | (simp; done) | (simp; omega)))))))
              clear B1 B2 B3 B4 HB
              obtain ⟨⟨v1, ⟨a1, a2, a3, a4, a5⟩⟩, r1, hm1⟩ : ∃ o k, moveS 70368744177664 true ⟨fx, fy, a, b, d⟩ ux uy 0 = (o, k) := ⟨_, _, rfl⟩
              obtain ⟨⟨v2, ⟨c1, c2, c3, c4, c5⟩⟩, r2, hm2⟩ : ∃ o k, moveS 70368744177664 true ⟨gx, gy, ga, gb, gd⟩ ux uy E0 = (o, k) := ⟨_, _, rfl⟩
              refine Calls.mono (move_c g 70368744177664 true fx fy a b d ux uy 0 _ G1.out) ?_; rintro e w7 ⟨v1', e1', k', hq, rfl, ho7, hb7⟩
              obtain ⟨⟨rfl, rfl⟩, rfl⟩ : (v1 = v1' ∧ (⟨a1, a2, a3, a4, a5⟩ : El) = e1') ∧ r1 = k' := by
                rw [hq] at hm1; injection hm1 with h2 h3; injection h2 with h4 h5; exact ⟨⟨h4.symm, h5.symm⟩, h3.symm⟩
              have H1b := Lib.hid hb7
              have H2b := Lib.hid (ho7.blk G2.out hg)
              have H3b := Lib.hid (ho7.blk G3.out n0)
              have H4b := Lib.hid (ho7.blk G4.out n1)
              have HUb := Lib.hid (ho7.blk GU.out ng)
              have HB7 : Hid (Below w.heap.size w w7) := OnlyAt.below ho7 HB6.out (Nat.le_refl _) lw
              clear hb7 ho7 G1 G2 G3 G4 GU HB6
              obtain ⟨y6, c6, f6, -⟩ := bk_o HUb.out
              by_cases z1 : r1 = 0
              · subst z1
                go_wp2_with fail
                refine Calls.mono (move_c h 70368744177664 true gx gy ga gb gd ux uy E0 _ H2b.out) ?_; rintro e w8 ⟨v2', e2', k', hq2, rfl, ho8, hb8⟩
                obtain ⟨⟨rfl, rfl⟩, rfl⟩ : (v2 = v2' ∧ (⟨c1, c2, c3, c4, c5⟩ : El) = e2') ∧ r2 = k' := by
                  rw [hq2] at hm2; injection hm2 with h2 h3; injection h2 with h4 h5; exact ⟨⟨h4.symm, h5.symm⟩, h3.symm⟩
                have J2 := Lib.hid hb8
                have J1 := Lib.hid (ho8.blk H1b.out gh)
                have J3 := Lib.hid (ho8.blk H3b.out n2)
                have J4 := Lib.hid (ho8.blk H4b.out n3)
                have HB8 : Hid (Below w.heap.size w w8) := OnlyAt.below ho8 HB7.out (Nat.le_refl _) lw2
                clear hb8 ho8 H1b H2b H3b H4b HUb HB7 y6 c6 f6
                have hbw := HB8.out
                have sw := hbw.size
                by_cases z2 : r2 = 0
                · subst z2
                  obtain ⟨t1, t2⟩ := there_f hm1
                  obtain ⟨u1, u2, u3, u4⟩ := there_g HG.out.2.2 hm2
                  subst t1; subst u1
                  have q1 : a1 = fx + ux := congrArg El.x t2
                  have q2 : a2 = fy + uy := congrArg El.y t2
                  have q3 : a3 = a := congrArg El.a t2
                  have q4 : a4 = b := congrArg El.b t2
                  have q5 : a5 = d := congrArg El.d t2
                  subst q3; subst q4; subst q5
                  simp only at u2 u3 u4
                  clear t2 hm1 hm2 hq hq2
                  go_wp2_with fail
                  go_roundw
                  case rel =>
                    refine ⟨k + 1, sx + ux, sy + uy, a1, a2, c1, c2, c3, c4, c5, by omega, by go_num, ?_, ?_, ?_, J1.out, J2.out, J3.out, J4.out, HB8.out⟩
                    · show _ = _; exact NEXT.out
                    · have h0 := HF.out; exact ⟨by omega, by omega⟩
                    · have h0 := HG.out; refine ⟨by omega, by omega, ?_⟩; rw [show p + (sx + ux) = p + sx + ux by omega, show q + (sy + uy) = q + sy + uy by omega]; exact u4
                  case measure => simp [intOf]; omega
                · have b1 : (r2 != 0) = true := by simp [z2]
                  have b0 : (r2 == 0) = false := by simp [z2]
                  clear hm1 hm2 hq hq2
                  go_wp2_with fail
                  refine (awake18_c _).mono ?_; rintro e w9 ⟨rfl, hb9⟩
                  have z9 := hb9.size
                  go_wp2
                  go_ret
                  exact ⟨rfl, (by repeat (first | with_reducible exact Below.refl _ _ | with_reducible exact Below_of_hid (by assumption) | with_reducible refine Below.drew ?_ | with_reducible refine below_drewN ?_ _ | (with_reducible refine Below_putRow ?_ ?hB _ _; case hB => (first | omega | (simp; done) | (simp; omega))) | (with_reducible refine Below.alloc ?_ ?hB _; case hB => (first | omega | (simp; done) | (simp; omega))) | (with_reducible refine Below.setCell ?_ ?hB _; case hB => (first | omega | (simp; done) | (simp; omega))) | (with_reducible refine Below.trans ?_ (Below.mono (by assumption) ?hB); case hB => (first | omega | (simp; done) | (simp; omega)))))⟩
              · have b1 : (r1 != 0) = true := by simp [z1]
                have b0 : (r1 == 0) = false := by simp [z1]
                have hbw := HB7.out
                have sw := hbw.size
                clear hm1 hm2 hq
                go_wp2_with fail
                refine (awake18_c _).mono ?_; rintro e w9 ⟨rfl, hb9⟩
                have z9 := hb9.size
                go_wp2
                go_ret
                exact ⟨rfl, (by repeat (first | with_reducible exact Below.refl _ _ | with_reducible exact Below_of_hid (by assumption) | with_reducible refine Below.drew ?_ | with_reducible refine below_drewN ?_ _ | (with_reducible refine Below_putRow ?_ ?hB _ _; case hB => (first | omega | (simp; done) | (simp; omega))) | (with_reducible refine Below.alloc ?_ ?hB _; case hB => (first | omega | (simp; done) | (simp; omega))) | (with_reducible refine Below.setCell ?_ ?hB _; case hB => (first | omega | (simp; done) | (simp; omega))) | (with_reducible refine Below.trans ?_ (Below.mono (by assumption) ?hB); case hB => (first | omega | (simp; done) | (simp; omega)))))⟩
            · obtain ⟨j, hj⟩ : ∃ j, N - 1 - k = j := ⟨_, rfl⟩
              have hjl : j < len := by omega
              obtain ⟨mb, mo, rfl, hmb, hc1, hc2⟩ := HT.out j hjl
              have kl : ¬ (k : Int) < (len : Int) := by omega
              have jl : (j : Int) < (len : Int) := by omega
              have j0 : (0 : Int) ≤ j := by omega
              obtain ⟨MX, hMX⟩ : ∃ z, (T j).1 = z := ⟨_, rfl⟩
              obtain ⟨MY, hMY⟩ : ∃ z, (T j).2 = z := ⟨_, rfl⟩
              rw [hMX] at hc1; rw [hMY] at hc2
              have mc1 : wr.cell? ⟨mb, mo + j * 2, none⟩ = some (.int .i64 MX) := (HB.out.cell (p := ⟨mb, mo + j * 2, none⟩) hmb).trans hc1
              have mc2 : wr.cell? ⟨mb, mo + j * 2 + 1, none⟩ = some (.int .i64 MY) := (HB.out.cell (p := ⟨mb, mo + j * 2 + 1, none⟩) hmb).trans hc2
              obtain ⟨rx, hrx⟩ : ∃ z, MX.tmod 1000 = z := ⟨_, rfl⟩
              obtain ⟨ry, hry⟩ : ∃ z, MY.tmod 1000 = z := ⟨_, rfl⟩
              have rx0 := Int.lt_tmod_of_pos MX (show (0 : Int) < 1000 by decide)
              have rx1 := Int.tmod_lt_of_pos MX (show (0 : Int) < 1000 by decide)
              have ry0 := Int.lt_tmod_of_pos MY (show (0 : Int) < 1000 by decide)
              have ry1 := Int.tmod_lt_of_pos MY (show (0 : Int) < 1000 by decide)
              rw [hrx] at rx0 rx1; rw [hry] at ry0 ry1
              obtain ⟨ux, hux⟩ : ∃ z, -rx = z := ⟨_, rfl⟩
              obtain ⟨uy, huy⟩ : ∃ z, -ry = z := ⟨_, rfl⟩
              have wx : wrap64 (-rx) = ux := by rw [hux]; unfold wrap64; omega
              have wy : wrap64 (-ry) = uy := by rw [huy]; unfold wrap64; omega
              have wx2 : IntKind.i64.wrap (-rx) = ux := by rw [IntKind.wrap_i64, hux]; omega
              have wy2 : IntKind.i64.wrap (-ry) = uy := by rw [IntKind.wrap_i64, huy]; omega
              have i1 : wrap64 (2 * (len : Int)) = 2 * (len : Int) := by unfold wrap64; omega
              have i1b : IntKind.i64.wrap (2 * (len : Int)) = 2 * (len : Int) := by rw [IntKind.wrap_i64]; omega
              have i2 : wrap64 (2 * (len : Int) - 1) = 2 * (len : Int) - 1 := by unfold wrap64; omega
              have i2b : IntKind.i64.wrap (2 * (len : Int) - 1) = 2 * (len : Int) - 1 := by rw [IntKind.wrap_i64]; omega
              have i3 : wrap64 (2 * (len : Int) - 1 - (k : Int)) = (j : Int) := by unfold wrap64; omega
              have i3b : IntKind.i64.wrap (2 * (len : Int) - 1 - (k : Int)) = (j : Int) := by rw [IntKind.wrap_i64]; omega
              have NEXT : Hid ((sx + ux, sy + uy) = sumU U (min (k + 1) (N - (k + 1)))) := by
                show _ = _
                have h0 := HS.out
                rw [show min k (N - k) = j + 1 by omega] at h0
                rw [show min (k + 1) (N - (k + 1)) = j by omega]
                have h1 : (sx, sy) = ((sumU U j).1 + (U j).1, (sumU U j).2 + (U j).2) := h0
                rw [HU.out j, hMX, hMY, hrx, hry] at h1
                injection h1 with h2 h3
                rw [← hux, ← huy]
                exact Prod.ext (by simp only; omega) (by simp only; omega)
              have mb1 : mb < wr.heap.size := Nat.lt_of_lt_of_le hmb sr
              clear hc1 hc2 hMX hMY
              go_wp2_with fail
              go_region
              go_wp2_with fail
              have G1 := Lib.hid (Blk.drew (B1.out.alloc (Obj.cells #[.int .i64 ux, .int .i64 uy] 23)))
              have G2 := Lib.hid (Blk.drew (B2.out.alloc (Obj.cells #[.int .i64 ux, .int .i64 uy] 23)))
              have G3 := Lib.hid (Blk.drew (B3.out.alloc (Obj.cells #[.int .i64 ux, .int .i64 uy] 23)))
              have G4 := Lib.hid (Blk.drew (B4.out.alloc (Obj.cells #[.int .i64 ux, .int .i64 uy] 23)))
              have GU : Hid (Blk ((wr.alloc (Obj.cells #[.int .i64 ux, .int .i64 uy] 23)).drew) wr.heap.size #[.int .i64 ux, .int .i64 uy] 23) := Blk.drew (Blk.new wr _ _)
              have HB6 : Hid (Below w.heap.size w ((wr.alloc (Obj.cells #[.int .i64 ux, .int .i64 uy] 23)).drew)) := (show Below _ _ _ from (by have hbw := HB.out; exact (by repeat (first | with_reducible exact Below.refl _ _ | with_reducible exact Below_of_hid (by assumption) | with_reducible refine Below.drew ?_ | with_reducible refine below_drewN ?_ _ | (with_reducible refine Below_putRow ?_ ?hB _ _; case hB => (first | omega | (simp; done) | (simp; omega))) | (with_reducible refine Below.alloc ?_ ?hB _; case hB => (first | omega | (simp; done) | (simp; omega))) | (with_reducible refine Below.setCell ?_ ?hB _; case hB => (first | omega | (simp; done) | (simp; omega))) | (with_reducible refine Below.trans ?_ (Below.mono (by assumption) ?hB); case hB => (first | omega | (simp; done) | (simp; omega)))))))
              clear B1 B2 B3 B4 HB
              obtain ⟨⟨v1, ⟨a1, a2, a3, a4, a5⟩⟩, r1, hm1⟩ : ∃ o k, moveS 70368744177664 true ⟨fx, fy, a, b, d⟩ ux uy 0 = (o, k) := ⟨_, _, rfl⟩
              obtain ⟨⟨v2, ⟨c1, c2, c3, c4, c5⟩⟩, r2, hm2⟩ : ∃ o k, moveS 70368744177664 true ⟨gx, gy, ga, gb, gd⟩ ux uy E0 = (o, k) := ⟨_, _, rfl⟩
              refine Calls.mono (move_c g 70368744177664 true fx fy a b d ux uy 0 _ G1.out) ?_; rintro e w7 ⟨v1', e1', k', hq, rfl, ho7, hb7⟩
              obtain ⟨⟨rfl, rfl⟩, rfl⟩ : (v1 = v1' ∧ (⟨a1, a2, a3, a4, a5⟩ : El) = e1') ∧ r1 = k' := by
                rw [hq] at hm1; injection hm1 with h2 h3; injection h2 with h4 h5; exact ⟨⟨h4.symm, h5.symm⟩, h3.symm⟩
              have H1b := Lib.hid hb7
              have H2b := Lib.hid (ho7.blk G2.out hg)
              have H3b := Lib.hid (ho7.blk G3.out n0)
              have H4b := Lib.hid (ho7.blk G4.out n1)
              have HUb := Lib.hid (ho7.blk GU.out ng)
              have HB7 : Hid (Below w.heap.size w w7) := OnlyAt.below ho7 HB6.out (Nat.le_refl _) lw
              clear hb7 ho7 G1 G2 G3 G4 GU HB6
              obtain ⟨y6, c6, f6, -⟩ := bk_o HUb.out
              by_cases z1 : r1 = 0
              · subst z1
                go_wp2_with fail
                refine Calls.mono (move_c h 70368744177664 true gx gy ga gb gd ux uy E0 _ H2b.out) ?_; rintro e w8 ⟨v2', e2', k', hq2, rfl, ho8, hb8⟩
                obtain ⟨⟨rfl, rfl⟩, rfl⟩ : (v2 = v2' ∧ (⟨c1, c2, c3, c4, c5⟩ : El) = e2') ∧ r2 = k' := by
                  rw [hq2] at hm2; injection hm2 with h2 h3; injection h2 with h4 h5; exact ⟨⟨h4.symm, h5.symm⟩, h3.symm⟩
                have J2 := Lib.hid hb8
                have J1 := Lib.hid (ho8.blk H1b.out gh)
                have J3 := Lib.hid (ho8.blk H3b.out n2)
                have J4 := Lib.hid (ho8.blk H4b.out n3)
                have HB8 : Hid (Below w.heap.size w w8) := OnlyAt.below ho8 HB7.out (Nat.le_refl _) lw2
                clear hb8 ho8 H1b H2b H3b H4b HUb HB7 y6 c6 f6
                have hbw := HB8.out
                have sw := hbw.size
                by_cases z2 : r2 = 0
                · subst z2
                  obtain ⟨t1, t2⟩ := there_f hm1
                  obtain ⟨u1, u2, u3, u4⟩ := there_g HG.out.2.2 hm2
                  subst t1; subst u1
                  have q1 : a1 = fx + ux := congrArg El.x t2
                  have q2 : a2 = fy + uy := congrArg El.y t2
                  have q3 : a3 = a := congrArg El.a t2
                  have q4 : a4 = b := congrArg El.b t2
                  have q5 : a5 = d := congrArg El.d t2
                  subst q3; subst q4; subst q5
                  simp only at u2 u3 u4
                  clear t2 hm1 hm2 hq hq2
                  go_wp2_with fail
                  go_roundw
                  case rel =>
                    refine ⟨k + 1, sx + ux, sy + uy, a1, a2, c1, c2, c3, c4, c5, by omega, by go_num, ?_, ?_, ?_, J1.out, J2.out, J3.out, J4.out, HB8.out⟩
                    · show _ = _; exact NEXT.out
                    · have h0 := HF.out; exact ⟨by omega, by omega⟩
                    · have h0 := HG.out; refine ⟨by omega, by omega, ?_⟩; rw [show p + (sx + ux) = p + sx + ux by omega, show q + (sy + uy) = q + sy + uy by omega]; exact u4
                  case measure => simp [intOf]; omega
                · have b1 : (r2 != 0) = true := by simp [z2]
                  have b0 : (r2 == 0) = false := by simp [z2]
                  clear hm1 hm2 hq hq2
                  go_wp2_with fail
                  refine (awake18_c _).mono ?_; rintro e w9 ⟨rfl, hb9⟩
                  have z9 := hb9.size
                  go_wp2
                  go_ret
                  exact ⟨rfl, (by repeat (first | with_reducible exact Below.refl _ _ | with_reducible exact Below_of_hid (by assumption) | with_reducible refine Below.drew ?_ | with_reducible refine below_drewN ?_ _ | (with_reducible refine Below_putRow ?_ ?hB _ _; case hB => (first | omega | (simp; done) | (simp; omega))) | (with_reducible refine Below.alloc ?_ ?hB _; case hB => (first | omega | (simp; done) | (simp; omega))) | (with_reducible refine Below.setCell ?_ ?hB _; case hB => (first | omega | (simp; done) | (simp; omega))) | (with_reducible refine Below.trans ?_ (Below.mono (by assumption) ?hB); case hB => (first | omega | (simp; done) | (simp; omega)))))⟩
              · have b1 : (r1 != 0) = true := by simp [z1]
                have b0 : (r1 == 0) = false := by simp [z1]
                have hbw := HB7.out
                have sw := hbw.size
                clear hm1 hm2 hq
                go_wp2_with fail
                refine (awake18_c _).mono ?_; rintro e w9 ⟨rfl, hb9⟩
                have z9 := hb9.size
                go_wp2
                go_ret
                exact ⟨rfl, (by repeat (first | with_reducible exact Below.refl _ _ | with_reducible exact Below_of_hid (by assumption) | with_reducible refine Below.drew ?_ | with_reducible refine below_drewN ?_ _ | (with_reducible refine Below_putRow ?_ ?hB _ _; case hB => (first | omega | (simp; done) | (simp; omega))) | (with_reducible refine Below.alloc ?_ ?hB _; case hB => (first | omega | (simp; done) | (simp; omega))) | (with_reducible refine Below.setCell ?_ ?hB _; case hB => (first | omega | (simp; done) | (simp; omega))) | (with_reducible refine Below.trans ?_ (Below.mono (by assumption) ?hB); case hB => (first | omega | (simp; done) | (simp; omega)))))⟩
          · obtain rfl : k = N := by omega
            have k1 : ¬ (k : Int) < 2 * (len : Int) := by omega
            have hs := HS.out
            rw [show min k (k - k) = 0 by omega] at hs
            injection hs with hs1 hs2
            subst hs1; subst hs2
            obtain ⟨f1, f2⟩ := HF.out
            obtain ⟨f3, f4, f5⟩ := HG.out
            rw [Int.add_zero] at f1 f2
            rw [Int.add_zero, Int.add_zero] at f5
            subst f1; subst f2; subst f3; subst f4
            have HIN := Lib.hid f5
            have hbw := HB.out
            go_wp2_with fail
            have hfld := fun w => el_centre gx gy ga gb gd w
            have s0 := cell_regrown (B3.out.cell (i := 0) rfl)
            have s1 := cell_regrown (B3.out.cell (i := 1) rfl)
            have s2 := cell_regrown (B3.out.cell (i := 2) rfl)
            have s3 := cell_regrown (B3.out.cell (i := 3) rfl)
            have s4 := cell_regrown (B3.out.cell (i := 4) rfl)
            have s5 := cell_regrown (B4.out.cell (i := 0) rfl)
            have s6 := cell_regrown (B4.out.cell (i := 1) rfl)
            refine wp_region_quiet_below (by kernel_rfl) (by kernel_rfl) ?_
            repeat (go_big_quiet_step (first
              | (go_at_call 21; exact Calls.regrown_of (by first | with_reducible exact valid_c g _ _ _ _ _ _ _ _ (Blk.keep B1.out (below_regrown _ _ _)) | with_reducible exact valid_c h _ _ _ _ _ _ _ _ (Blk.keep B2.out (below_regrown _ _ _))))
              | (go_at_call 22; exact Calls.regrown_of (by first | with_reducible exact e_c g _ _ _ _ _ _ _ _ (Blk.keep B1.out (below_regrown _ _ _)) | with_reducible exact e_c h _ _ _ _ _ _ _ _ (Blk.keep B2.out (below_regrown _ _ _))))
              | (go_at_call 14; exact Calls.regrown_of (ellin_v _ _ _ _ _ _ _ _ HIN.out _))
              | (go_at_call 17; exact Calls.regrown_of (awake18_c _))))
            refine wpQuiet_nil ?_
            intro wq hwq
            have hbq := below_of_regrown hwq
            clear hwq
            go_wp2
            go_ret
            exact ⟨rfl, Below.trans hbw (hbq.mono hbw.size)⟩
end Go.Proofs.Ytfohihjeemmedaa
