/- The walk of FilterFound. -/
import Derived.Test.YtfohihjeemmedaaS4
namespace Go.Proofs.Ytfohihjeemmedaa
open Go.RowKit

set_option maxRecDepth 100000 in
/-- An ellipse's centre. -/
theorem el_centre (x y a b d : Int) (w : World) : Sem.run Try.prog (Instr.field 27 (elC x y a b d) 0) w = .ok (ptV x y) w := by rfl
/-- A lost filter that hears a distance. -/
theorem found_range (n : El) (lo hi : Int) {v1 : Bool} {e1 : El} {k : Int} (h : rangeS 70368744177664 false El.zero n lo hi = ((v1, e1), k)) :
    (¬ k = 0 ∧ v1 = false ∧ e1 = El.zero) ∨ (k = 0 ∧ v1 = true ∧ ∃ r R, n.rad = R ∧ 0 ≤ R ∧ R ≤ 4194304 ∧ 0 ≤ hi ∧ hi ≤ 4194304 ∧ hi + R ≤ 4194304 ∧ max 1 (hi + R) = r ∧ e1 = ⟨n.x, n.y, r * r, 0, r * r⟩ ∧ e1.tr = r * r + r * r) := by
  unfold rangeS at h
  rw [if_neg (by decide)] at h
  have rl := n.rad_le
  have r0 : 0 ≤ n.rad := by unfold El.rad; omega
  unfold acqE at h
  split at h
  · rename_i hc
    split at h
    · rw [if_neg (by decide)] at h
      injection h with h1 h2; injection h1 with h3 h4
      exact .inl ⟨by omega, h3.symm, h4.symm⟩
    · rename_i hfar
      have pm := (mayPt_iff _ _).2 ((El.may_iff _).1 hc.1).1
      have hb : ballE n.x n.y (max 1 (hi + n.rad)) = (⟨n.x, n.y, max 1 (hi + n.rad) * max 1 (hi + n.rad), 0, max 1 (hi + n.rad) * max 1 (hi + n.rad)⟩, 0) := by
        unfold ballE; rw [if_pos ⟨pm, by omega, by omega⟩]
      rw [hb, if_pos rfl] at h
      have bm := ball_may n.x n.y (max 1 (hi + n.rad)) pm (by omega) (by omega)
      have q : max 1 (hi + n.rad) * max 1 (hi + n.rad) ≤ 4194304 * 4194304 := Int.mul_le_mul (by omega) (by omega) (by omega) (by decide)
      have ht : El.tr ⟨n.x, n.y, max 1 (hi + n.rad) * max 1 (hi + n.rad), 0, max 1 (hi + n.rad) * max 1 (hi + n.rad)⟩ = max 1 (hi + n.rad) * max 1 (hi + n.rad) + max 1 (hi + n.rad) * max 1 (hi + n.rad) := by
        unfold El.tr; rw [if_pos bm]
      unfold setS at h
      rw [if_pos bm, if_neg (by rw [ht]; omega)] at h
      injection h with h1 h2; injection h1 with h3 h4
      exact .inr ⟨h2.symm, h3.symm, _, _, rfl, r0, by omega, hc.2.1, hc.2.2, by omega, rfl, h4.symm, by rw [← h4]; exact ht⟩
  · rw [if_neg (by decide)] at h
    injection h with h1 h2; injection h1 with h3 h4
    exact .inl ⟨by omega, h3.symm, h4.symm⟩
theorem found_meet (e : El) {v1 : Bool} {e1 : El} {k : Int} (h : meetS 70368744177664 false El.zero e = ((v1, e1), k)) : (¬ k = 0 ∧ v1 = false ∧ e1 = El.zero) ∨ (k = 0 ∧ v1 = true ∧ e1 = e) := by
  unfold meetS at h
  rw [if_neg (by decide)] at h
  unfold setS at h
  split at h
  · split at h
    · injection h with h1 h2; injection h1 with h3 h4; exact .inl ⟨by omega, h3.symm, h4.symm⟩
    · injection h with h1 h2; injection h1 with h3 h4; exact .inr ⟨h2.symm, h3.symm, h4.symm⟩
  · injection h with h1 h2; injection h1 with h3 h4; exact .inl ⟨by omega, h3.symm, h4.symm⟩
set_option maxRecDepth 100000 in
set_option maxHeartbeats 8000000 in
theorem filterFound_c (x y a b d x' y' a' b' d' lo hi : Int) (w : World) :
    Calls Try.prog 9 #[elC x y a b d, elC x' y' a' b' d', .int .i64 lo, .int .i64 hi] w fun e w' => e = .returned (.bool true) ∧ Below w.heap.size w w' := by
  obtain ⟨⟨v1, ⟨p1, p2, p3, p4, p5⟩⟩, k, hr⟩ : ∃ o k, rangeS 70368744177664 false El.zero ⟨x, y, a, b, d⟩ lo hi = (o, k) := ⟨_, _, rfl⟩
  obtain ⟨⟨v2, ⟨q1, q2, q3, q4, q5⟩⟩, l, hm⟩ : ∃ o k, meetS 70368744177664 false El.zero ⟨x', y', a', b', d'⟩ = (o, k) := ⟨_, _, rfl⟩
  have HR := Lib.hid hr
  have HM := Lib.hid hm
  have FR := found_range _ _ _ hr
  have FM := found_meet _ hm
  clear hr hm
  go_enter Try.func9, Try.ntmps9
  go_wp2_with fail
  have hmax : max (2 : Int) 70368744177664 = 70368744177664 := by decide
  refine (new_c _ _).mono ?_; rintro e w1 ⟨g, rfl, lg, B1, hb1⟩; have z_w1 := hb1.size; (try simp at z_w1); obtain ⟨y_w1_0_0, c_w1_0_0, f_w1_0_0, r_w1_0_0, t_w1_0_0, p_w1_0_0⟩ := bk hb1 (w.heap.size) (by first | omega | (simp; done) | (simp; omega) | fail); obtain ⟨y_w1_0_1, c_w1_0_1, f_w1_0_1, r_w1_0_1, t_w1_0_1, p_w1_0_1⟩ := bk hb1 (w.heap.size + 1) (by first | omega | (simp; done) | (simp; omega) | fail)
  rw [hmax] at B1
  go_wp2_with fail
  refine (new_c _ _).mono ?_; rintro e w2 ⟨h, rfl, lh, B2, hb2⟩; have z_w2 := hb2.size; (try simp at z_w2); obtain ⟨y_w2_0_0, c_w2_0_0, f_w2_0_0, r_w2_0_0, t_w2_0_0, p_w2_0_0⟩ := bk hb2 (w.heap.size) (by first | omega | (simp; done) | (simp; omega) | fail); obtain ⟨y_w2_0_1, c_w2_0_1, f_w2_0_1, r_w2_0_1, t_w2_0_1, p_w2_0_1⟩ := bk hb2 (w.heap.size + 1) (by first | omega | (simp; done) | (simp; omega) | fail)
  rw [hmax] at B2
  have C1 := Lib.hid (B1.keep hb2)
  have HB2 : Hid (Below w.heap.size w w2) := (show Below _ _ _ from (by repeat (first | with_reducible exact Below.refl _ _ | with_reducible exact Below_of_hid (by assumption) | with_reducible refine Below.drew ?_ | with_reducible refine below_drewN ?_ _ | (with_reducible refine Below_putRow ?_ ?hB _ _; case hB => (first | omega | (simp; done) | (simp; omega))) | (with_reducible refine Below.alloc ?_ ?hB _; case hB => (first | omega | (simp; done) | (simp; omega))) | (with_reducible refine Below.setCell ?_ ?hB _; case hB => (first | omega | (simp; done) | (simp; omega))) | (with_reducible refine Below.trans ?_ (Below.mono (by assumption) ?hB); case hB => (first | omega | (simp; done) | (simp; omega))))))
  have X0 : Hid (Blk w2 w.heap.size #[.int .i64 x, .int .i64 y, .int .i64 a, .int .i64 b, .int .i64 d] 27) := (((Blk.new w _ _).alloc _).keep hb1).keep hb2
  have X1 : Hid (Blk w2 (w.heap.size + 1) #[.int .i64 x', .int .i64 y', .int .i64 a', .int .i64 b', .int .i64 d'] 27) := ((Blk.new' (w.alloc _) _ _ (by simp)).keep hb1).keep hb2
  have C2 := Lib.hid B2
  have l1 := B1.lt
  have gh : ¬ (g = h) := by omega
  have hg : ¬ (h = g) := by omega
  simp at lg
  have n0 : ¬ (w.heap.size = g) := by omega
  have n1 : ¬ (w.heap.size + 1 = g) := by omega
  have n2 : ¬ (w.heap.size = h) := by omega
  have n3 : ¬ (w.heap.size + 1 = h) := by omega
  go_wp2_with fail
  clear B1 B2 hb1 hb2
  clear z_w2 y_w2_0_0 c_w2_0_0 f_w2_0_0 r_w2_0_0 t_w2_0_0 p_w2_0_0 y_w2_0_1 c_w2_0_1 f_w2_0_1 r_w2_0_1 t_w2_0_1 p_w2_0_1
  clear z_w1 y_w1_0_0 c_w1_0_0 f_w1_0_0 r_w1_0_0 t_w1_0_0 p_w1_0_0 y_w1_0_1 c_w1_0_1 f_w1_0_1 r_w1_0_1 t_w1_0_1 p_w1_0_1
  refine Calls.mono (range_c g 70368744177664 false 0 0 0 0 0 x y a b d lo hi _ C1.out) ?_; rintro e w3 ⟨v1', e1', k', hq, rfl, ho3, hb3⟩
  obtain ⟨⟨rfl, rfl⟩, rfl⟩ : (v1 = v1' ∧ (⟨p1, p2, p3, p4, p5⟩ : El) = e1') ∧ k = k' := by
    have h1 := HR.out
    rw [show El.zero = (⟨0, 0, 0, 0, 0⟩ : El) from rfl, hq] at h1
    injection h1 with h2 h3; injection h2 with h4 h5; exact ⟨⟨h4.symm, h5.symm⟩, h3.symm⟩
  have D1 := Lib.hid hb3
  have Y0 := Lib.hid (ho3.blk X0.out n0)
  have Y1 := Lib.hid (ho3.blk X1.out n1)
  have D2 := Lib.hid (ho3.blk C2.out hg)
  have HB3 : Hid (Below w.heap.size w w3) := OnlyAt.below ho3 HB2.out (Nat.le_refl _) (by omega)
  obtain ⟨y1, c1, f1, -⟩ := bk_o Y1.out
  obtain ⟨y0, c0, f0, -⟩ := bk_o Y0.out
  clear hb3 X0 X1 C1 C2 HB2 hq ho3
  go_wp2_with fail
  refine Calls.mono (meet_c h 70368744177664 false 0 0 0 0 0 x' y' a' b' d' _ D2.out) ?_; rintro e w4 ⟨v2', e2', l', hq, rfl, ho4, hb4⟩
  obtain ⟨⟨rfl, rfl⟩, rfl⟩ : (v2 = v2' ∧ (⟨q1, q2, q3, q4, q5⟩ : El) = e2') ∧ l = l' := by
    have h1 := HM.out
    rw [show El.zero = (⟨0, 0, 0, 0, 0⟩ : El) from rfl, hq] at h1
    injection h1 with h2 h3; injection h2 with h4 h5; exact ⟨⟨h4.symm, h5.symm⟩, h3.symm⟩
  have E2 := Lib.hid hb4
  have E1 := Lib.hid (ho4.blk D1.out gh)
  have Z0 := Lib.hid (ho4.blk Y0.out n2)
  have Z1 := Lib.hid (ho4.blk Y1.out n3)
  have HB4 : Hid (Below w.heap.size w w4) := OnlyAt.below ho4 HB3.out (Nat.le_refl _) (by omega)
  clear hb4 Y0 Y1 D1 D2 HB3 hq ho4 y1 c1 f1 y0 c0 f0
  obtain ⟨y0, c0, f0, -⟩ := bk_o Z0.out
  obtain ⟨y1, c1, f1, -⟩ := bk_o Z1.out
  have s0 := cell_regrown (Z1.out.cell (i := 0) rfl)
  have s1 := cell_regrown (Z1.out.cell (i := 1) rfl)
  have s2 := cell_regrown (Z1.out.cell (i := 2) rfl)
  have s3 := cell_regrown (Z1.out.cell (i := 3) rfl)
  have s4 := cell_regrown (Z1.out.cell (i := 4) rfl)
  rcases FM with ⟨l0, rfl, hz⟩ | ⟨rfl, rfl, hz⟩
  · injection hz with z1 z2 z3 z4 z5
    subst z1; subst z2; subst z3; subst z4; subst z5
    have l0b : (l == 0) = false := by simp [l0]
    rcases FR with ⟨k0, rfl, hz⟩ | ⟨rfl, rfl, r, R, hR, R0, R1, hi0, hi1, hs, hm, hz, ht⟩
    · injection hz with z1 z2 z3 z4 z5
      subst z1; subst z2; subst z3; subst z4; subst z5
      have k0b : (k == 0) = false := by simp [k0]
      go_wp2_with fail
      refine wp_region_quiet_below (by kernel_rfl) (by kernel_rfl) ?_
      repeat (go_big_quiet_step (first
        | (go_at_call 21; exact Calls.regrown_of (by first | with_reducible exact valid_c g _ _ _ _ _ _ _ _ (Blk.keep E1.out (below_regrown _ _ _)) | with_reducible exact valid_c h _ _ _ _ _ _ _ _ (Blk.keep E2.out (below_regrown _ _ _))))
        | (go_at_call 22; exact Calls.regrown_of (by first | with_reducible exact e_c g _ _ _ _ _ _ _ _ (Blk.keep E1.out (below_regrown _ _ _)) | with_reducible exact e_c h _ _ _ _ _ _ _ _ (Blk.keep E2.out (below_regrown _ _ _))))))
      refine wpQuiet_nil ?_
      intro w5 hw5
      have hb5 := below_of_regrown hw5
      clear hw5
      have F1 := Lib.hid (E1.out.keep hb5)
      have HB5 : Hid (Below w.heap.size w w5) := Below.trans HB4.out (hb5.mono HB4.out.size)
      have U0 := Lib.hid (Z0.out.keep hb5)
      go_wp2_with fail
      refine (valid_c g _ _ _ _ _ _ _ _ F1.out).mono ?_; rintro e w6 ⟨rfl, hb6⟩
      go_wp2_with fail
      refine (awake18_c _).mono ?_; rintro e w7 ⟨rfl, hb7⟩
      have hbw := HB5.out
      have z5 := hbw.size
      have z6 := hb6.size
      have z7 := hb7.size
      go_wp2
      go_ret
      exact ⟨rfl, (by repeat (first | with_reducible exact Below.refl _ _ | with_reducible exact Below_of_hid (by assumption) | with_reducible refine Below.drew ?_ | with_reducible refine below_drewN ?_ _ | (with_reducible refine Below_putRow ?_ ?hB _ _; case hB => (first | omega | (simp; done) | (simp; omega))) | (with_reducible refine Below.alloc ?_ ?hB _; case hB => (first | omega | (simp; done) | (simp; omega))) | (with_reducible refine Below.setCell ?_ ?hB _; case hB => (first | omega | (simp; done) | (simp; omega))) | (with_reducible refine Below.trans ?_ (Below.mono (by assumption) ?hB); case hB => (first | omega | (simp; done) | (simp; omega)))))⟩
    · injection hz with z1 z2 z3 z4 z5
      (try simp only at z1 z2 z3 z4 z5)
      obtain ⟨r2, hr2⟩ : ∃ z, r * r = z := ⟨_, rfl⟩
      rw [hr2] at z3 z5 ht
      have z3 := z3.symm
      have z5 := z5.symm
      subst z1; subst z2; subst z3; subst z4; subst z5
      obtain ⟨s, hss⟩ : ∃ z, hi + R = z := ⟨_, rfl⟩
      rw [hss] at hs hm
      have s1' : 0 ≤ s := by omega
      have q2 : s * s ≤ 4194304 * 4194304 := Int.mul_le_mul hs hs s1' (by decide)
      have q3 := Int.mul_nonneg s1' s1'
      obtain ⟨s2, hs2⟩ : ∃ z, s * s = z := ⟨_, rfl⟩
      have hmx : max 1 s2 = r2 := by
        rcases Int.lt_or_le s 1 with c | c
        · obtain rfl : s = 0 := by omega
          subst hm; subst hr2; subst hs2; rfl
        · have e : s = r := by omega
          have c2 : 1 * 1 ≤ s * s := Int.mul_le_mul c c (by decide) s1'
          rw [← e, hs2] at hr2
          rw [hs2] at c2
          omega
      rw [hs2] at q2 q3
      have wr1 : wrap64 (hi + R) = s := by rw [hss]; unfold wrap64; omega
      have wr2 : wrap64 (s * s) = s2 := by rw [hs2]; unfold wrap64; omega
      have wr3 : IntKind.i64.wrap (s * s) = s2 := by rw [IntKind.wrap_i64, hs2]; omega
      have wr4 : wrap64 (2 * r2) = r2 + r2 := by unfold wrap64; omega
      have wr5 : IntKind.i64.wrap (2 * r2) = r2 + r2 := by rw [IntKind.wrap_i64]; omega
      have RR := Lib.hid hR
      have TR := Lib.hid ht
      clear hR ht hm hss hs2 hr2 q2 q3 R0 R1 hi0 hi1 hs s1' HR HM
      go_wp2_with fail
      refine wp_region_quiet_below (by kernel_rfl) (by kernel_rfl) ?_
      repeat (go_big_quiet_step (first
        | (go_at_call 21; exact Calls.regrown_of (by first | with_reducible exact valid_c g _ _ _ _ _ _ _ _ (Blk.keep E1.out (below_regrown _ _ _)) | with_reducible exact valid_c h _ _ _ _ _ _ _ _ (Blk.keep E2.out (below_regrown _ _ _))))
        | (go_at_call 22; exact Calls.regrown_of (by first | with_reducible exact e_c g _ _ _ _ _ _ _ _ (Blk.keep E1.out (below_regrown _ _ _)) | with_reducible exact e_c h _ _ _ _ _ _ _ _ (Blk.keep E2.out (below_regrown _ _ _))))))
      refine wpQuiet_nil ?_
      intro w5 hw5
      have hb5 := below_of_regrown hw5
      clear hw5
      have F1 := Lib.hid (E1.out.keep hb5)
      have HB5 : Hid (Below w.heap.size w w5) := Below.trans HB4.out (hb5.mono HB4.out.size)
      have U0 := Lib.hid (Z0.out.keep hb5)
      clear y0 c0 f0
      go_wp2_with fail
      refine (valid_c g _ _ _ _ _ _ _ _ F1.out).mono ?_; rintro e w6 ⟨rfl, hb6⟩
      have G1 := Lib.hid (F1.out.keep hb6)
      have V0 := Lib.hid (U0.out.keep hb6)
      obtain ⟨y0, c0, f0, -⟩ := bk_o V0.out
      have HB6 : Hid (Below w.heap.size w w6) := Below.trans HB5.out (hb6.mono HB5.out.size)
      have z6 := HB6.out.size
      go_wp2_with fail
      refine (rad_v _ _ _ _ _ _ RR.out _).mono ?_; rintro e w7 ⟨rfl, hb7⟩
      have G2 := Lib.hid (G1.out.keep hb7)
      have T0 := Lib.hid (V0.out.keep hb7)
      have HB7 : Hid (Below w.heap.size w w7) := Below.trans HB6.out (hb7.mono HB6.out.size)
      clear hb6 hb7
      go_wp2_with fail
      simp only [wr1]
      have hfld := fun w => el_centre p1 p2 r2 0 r2 w
      have t0 := cell_regrown (T0.out.cell (i := 0) rfl)
      have t1 := cell_regrown (T0.out.cell (i := 1) rfl)
      refine wp_region_quiet_below (by kernel_rfl) (by kernel_rfl) ?_
      repeat (go_big_quiet_step (first
        | (go_at_call 22; exact Calls.regrown_of (e_c g _ _ _ _ _ _ _ _ (Blk.keep G2.out (below_regrown _ _ _))))
        | (go_at_call 13; exact Calls.regrown_of (trace_v _ _ _ _ _ _ TR.out _))
        | (go_at_call 17; exact Calls.regrown_of (awake18_c _))))
      refine wpQuiet_nil ?_
      intro wq hwq
      have hbq := below_of_regrown hwq
      clear hwq
      go_wp2
      go_ret
      exact ⟨rfl, Below.trans HB7.out (hbq.mono HB7.out.size)⟩
  · injection hz with z1 z2 z3 z4 z5
    subst z1; subst z2; subst z3; subst z4; subst z5
    rcases FR with ⟨k0, rfl, hz⟩ | ⟨rfl, rfl, r, R, hR, R0, R1, hi0, hi1, hs, hm, hz, ht⟩
    · injection hz with z1 z2 z3 z4 z5
      subst z1; subst z2; subst z3; subst z4; subst z5
      have k0b : (k == 0) = false := by simp [k0]
      go_wp2_with fail
      refine wp_region_quiet_below (by kernel_rfl) (by kernel_rfl) ?_
      repeat (go_big_quiet_step (first
        | (go_at_call 21; exact Calls.regrown_of (by first | with_reducible exact valid_c g _ _ _ _ _ _ _ _ (Blk.keep E1.out (below_regrown _ _ _)) | with_reducible exact valid_c h _ _ _ _ _ _ _ _ (Blk.keep E2.out (below_regrown _ _ _))))
        | (go_at_call 22; exact Calls.regrown_of (by first | with_reducible exact e_c g _ _ _ _ _ _ _ _ (Blk.keep E1.out (below_regrown _ _ _)) | with_reducible exact e_c h _ _ _ _ _ _ _ _ (Blk.keep E2.out (below_regrown _ _ _))))))
      refine wpQuiet_nil ?_
      intro w5 hw5
      have hb5 := below_of_regrown hw5
      clear hw5
      have F1 := Lib.hid (E1.out.keep hb5)
      have HB5 : Hid (Below w.heap.size w w5) := Below.trans HB4.out (hb5.mono HB4.out.size)
      have U0 := Lib.hid (Z0.out.keep hb5)
      go_wp2_with fail
      refine (valid_c g _ _ _ _ _ _ _ _ F1.out).mono ?_; rintro e w6 ⟨rfl, hb6⟩
      go_wp2_with fail
      refine (awake18_c _).mono ?_; rintro e w7 ⟨rfl, hb7⟩
      have hbw := HB5.out
      have z5 := hbw.size
      have z6 := hb6.size
      have z7 := hb7.size
      go_wp2
      go_ret
      exact ⟨rfl, (by repeat (first | with_reducible exact Below.refl _ _ | with_reducible exact Below_of_hid (by assumption) | with_reducible refine Below.drew ?_ | with_reducible refine below_drewN ?_ _ | (with_reducible refine Below_putRow ?_ ?hB _ _; case hB => (first | omega | (simp; done) | (simp; omega))) | (with_reducible refine Below.alloc ?_ ?hB _; case hB => (first | omega | (simp; done) | (simp; omega))) | (with_reducible refine Below.setCell ?_ ?hB _; case hB => (first | omega | (simp; done) | (simp; omega))) | (with_reducible refine Below.trans ?_ (Below.mono (by assumption) ?hB); case hB => (first | omega | (simp; done) | (simp; omega)))))⟩
    · injection hz with z1 z2 z3 z4 z5
      (try simp only at z1 z2 z3 z4 z5)
      obtain ⟨r2, hr2⟩ : ∃ z, r * r = z := ⟨_, rfl⟩
      rw [hr2] at z3 z5 ht
      have z3 := z3.symm
      have z5 := z5.symm
      subst z1; subst z2; subst z3; subst z4; subst z5
      obtain ⟨s, hss⟩ : ∃ z, hi + R = z := ⟨_, rfl⟩
      rw [hss] at hs hm
      have s1' : 0 ≤ s := by omega
      have q2 : s * s ≤ 4194304 * 4194304 := Int.mul_le_mul hs hs s1' (by decide)
      have q3 := Int.mul_nonneg s1' s1'
      obtain ⟨s2, hs2⟩ : ∃ z, s * s = z := ⟨_, rfl⟩
      have hmx : max 1 s2 = r2 := by
        rcases Int.lt_or_le s 1 with c | c
        · obtain rfl : s = 0 := by omega
          subst hm; subst hr2; subst hs2; rfl
        · have e : s = r := by omega
          have c2 : 1 * 1 ≤ s * s := Int.mul_le_mul c c (by decide) s1'
          rw [← e, hs2] at hr2
          rw [hs2] at c2
          omega
      rw [hs2] at q2 q3
      have wr1 : wrap64 (hi + R) = s := by rw [hss]; unfold wrap64; omega
      have wr2 : wrap64 (s * s) = s2 := by rw [hs2]; unfold wrap64; omega
      have wr3 : IntKind.i64.wrap (s * s) = s2 := by rw [IntKind.wrap_i64, hs2]; omega
      have wr4 : wrap64 (2 * r2) = r2 + r2 := by unfold wrap64; omega
      have wr5 : IntKind.i64.wrap (2 * r2) = r2 + r2 := by rw [IntKind.wrap_i64]; omega
      have RR := Lib.hid hR
      have TR := Lib.hid ht
      clear hR ht hm hss hs2 hr2 q2 q3 R0 R1 hi0 hi1 hs s1' HR HM
      go_wp2_with fail
      refine wp_region_quiet_below (by kernel_rfl) (by kernel_rfl) ?_
      repeat (go_big_quiet_step (first
        | (go_at_call 21; exact Calls.regrown_of (by first | with_reducible exact valid_c g _ _ _ _ _ _ _ _ (Blk.keep E1.out (below_regrown _ _ _)) | with_reducible exact valid_c h _ _ _ _ _ _ _ _ (Blk.keep E2.out (below_regrown _ _ _))))
        | (go_at_call 22; exact Calls.regrown_of (by first | with_reducible exact e_c g _ _ _ _ _ _ _ _ (Blk.keep E1.out (below_regrown _ _ _)) | with_reducible exact e_c h _ _ _ _ _ _ _ _ (Blk.keep E2.out (below_regrown _ _ _))))))
      refine wpQuiet_nil ?_
      intro w5 hw5
      have hb5 := below_of_regrown hw5
      clear hw5
      have F1 := Lib.hid (E1.out.keep hb5)
      have HB5 : Hid (Below w.heap.size w w5) := Below.trans HB4.out (hb5.mono HB4.out.size)
      have U0 := Lib.hid (Z0.out.keep hb5)
      clear y0 c0 f0
      go_wp2_with fail
      refine (valid_c g _ _ _ _ _ _ _ _ F1.out).mono ?_; rintro e w6 ⟨rfl, hb6⟩
      have G1 := Lib.hid (F1.out.keep hb6)
      have V0 := Lib.hid (U0.out.keep hb6)
      obtain ⟨y0, c0, f0, -⟩ := bk_o V0.out
      have HB6 : Hid (Below w.heap.size w w6) := Below.trans HB5.out (hb6.mono HB5.out.size)
      have z6 := HB6.out.size
      go_wp2_with fail
      refine (rad_v _ _ _ _ _ _ RR.out _).mono ?_; rintro e w7 ⟨rfl, hb7⟩
      have G2 := Lib.hid (G1.out.keep hb7)
      have T0 := Lib.hid (V0.out.keep hb7)
      have HB7 : Hid (Below w.heap.size w w7) := Below.trans HB6.out (hb7.mono HB6.out.size)
      clear hb6 hb7
      go_wp2_with fail
      simp only [wr1]
      have hfld := fun w => el_centre p1 p2 r2 0 r2 w
      have t0 := cell_regrown (T0.out.cell (i := 0) rfl)
      have t1 := cell_regrown (T0.out.cell (i := 1) rfl)
      refine wp_region_quiet_below (by kernel_rfl) (by kernel_rfl) ?_
      repeat (go_big_quiet_step (first
        | (go_at_call 22; exact Calls.regrown_of (e_c g _ _ _ _ _ _ _ _ (Blk.keep G2.out (below_regrown _ _ _))))
        | (go_at_call 13; exact Calls.regrown_of (trace_v _ _ _ _ _ _ TR.out _))
        | (go_at_call 17; exact Calls.regrown_of (awake18_c _))))
      refine wpQuiet_nil ?_
      intro wq hwq
      have hbq := below_of_regrown hwq
      clear hwq
      go_wp2
      go_ret
      exact ⟨rfl, Below.trans HB7.out (hbq.mono HB7.out.size)⟩
end Go.Proofs.Ytfohihjeemmedaa
