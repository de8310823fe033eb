/- The walk of WideSigns. -/
import Derived.Test.YtkepdjmgmjhejaaLs
namespace Go.Proofs.Ytkepdjmgmjhejaa
set_option linter.unusedSimpArgs false
open Go.RowKit

theorem mul_e {x y z : WI} (h : Hid (x.mul y = z)) {w : World} : Calls Try.prog 19 #[.agg x.cells, .agg y.cells] w fun e w' => e = .returned (.agg z.cells) ∧ Below w.heap.size w w' := by
  have := mul_I x y w
  rwa [h.out] at this
theorem add_e {x y z : WI} (h : Hid (x.add y = z)) {w : World} : Calls Try.prog 18 #[.agg x.cells, .agg y.cells] w fun e w' => e = .returned (.agg z.cells) ∧ Below w.heap.size w w' := by
  have := add_I x y w
  rwa [h.out] at this
theorem neg_e {x z : WI} (h : Hid (x.neg = z)) {w : World} : Calls Try.prog 24 #[.agg x.cells] w fun e w' => e = .returned (.agg z.cells) ∧ Below w.heap.size w w' := by
  have := neg_I x w
  rwa [h.out] at this
theorem over_x {x : WI} {b : Bool} (h : Hid (x.ov = b)) {w : World} : Calls Try.prog 14 #[.agg x.cells] w fun e w' => e = .returned (.bool b) ∧ Below w.heap.size w w' := by
  have := over_I x w
  rwa [h.out] at this
theorem text_x {x : WI} {v : Value} (h : Hid (str (txt x.v) = v)) {w : World} : Calls Try.prog 17 #[.agg x.cells] w fun e w' => e = .returned v ∧ Below w.heap.size w w' := by
  have := text_I x w
  rwa [h.out] at this
theorem txt_zero : str (txt (WI.of 0).v) = .string ⟨#[48]⟩ := by
  rw [WI.of_v (by simpa using lim_pos)]; rfl
theorem sign_bnd (x : WI) : x.sign = -1 ∨ x.sign = 0 ∨ x.sign = 1 := by
  unfold WI.sign
  cases x.v with
  | none => exact .inr (.inl rfl)
  | some a =>
    rcases Int.lt_trichotomy a 0 with h | h | h
    · exact .inl (Int.sign_eq_neg_one_of_neg h)
    · subst h; exact .inr (.inl rfl)
    · exact .inr (.inr (Int.sign_eq_one_of_pos h))
set_option maxRecDepth 100000 in
set_option maxHeartbeats 4000000 in
theorem wideSigns_c (v0 v1 : Value) (z0 z1 : WI) (w : World) (h0 : NumIs w v0 z0) (h1 : NumIs w v1 z1) :
    Calls Try.prog 5 #[v0, v1] w fun e w' => e = .returned (.bool true) ∧ Below w.heap.size w w' := by
  have h0' := h0
  obtain ⟨A0, len0, cap0, T0, K0, rfl, -, -, -, -⟩ := h0'
  have HN0 := Lib.hid h0
  have h1' := h1
  obtain ⟨A1, len1, cap1, T1, K1, rfl, -, -, -, -⟩ := h1'
  have HN1 := Lib.hid h1
  clear h0 h1
  go_enter Try.func5, Try.ntmps5
  go_wp2_with fail
  have HU0 : Hid (Below w.heap.size w (((w).alloc (Obj.cells #[.slice A0 len0 cap0, .int .i64 K0] 24)).alloc (Obj.cells #[.slice A1 len1 cap1, .int .i64 K1] 24))) := (by repeat (first | exact Below.refl _ _ | exact Below_of_hid (by assumption) | refine Below.drew ?_ | refine below_drewN ?_ _ | refine Below_putRow ?_ (by first | omega | (simp; done) | (simp; omega) | fail) _ _ | refine Below.alloc ?_ (by first | omega | (simp; done) | (simp; omega) | fail) _ | refine Below.setCell ?_ (by first | omega | (simp; done) | (simp; omega) | fail) _ | refine Below.trans ?_ (Below.mono (by assumption) (by first | omega | (simp; done) | (simp; omega) | fail))))
  have X0_0 : Hid (Blk (((w).alloc (Obj.cells #[.slice A0 len0 cap0, .int .i64 K0] 24)).alloc (Obj.cells #[.slice A1 len1 cap1, .int .i64 K1] 24)) (w.heap.size) #[.slice A0 len0 cap0, .int .i64 K0] 24) := (Blk.new' _ _ _ (by simp)).alloc _
  have X1_0 : Hid (Blk (((w).alloc (Obj.cells #[.slice A0 len0 cap0, .int .i64 K0] 24)).alloc (Obj.cells #[.slice A1 len1 cap1, .int .i64 K1] 24)) (w.heap.size + 1) #[.slice A1 len1 cap1, .int .i64 K1] 24) := Blk.new' _ _ _ (by simp)
  refine (lawOf_r _ z0 _ (HN0.out.below HU0.out)).mono ?_
  rintro e w0 ⟨⟨bv0, rfl, hbv0⟩, hb0⟩
  obtain ⟨B0, c0, rfl, hR0⟩ := hbv0.opened
  have HR0 := Lib.hid hR0
  have HV0 : Hid (Below w.heap.size w w0) := HU0.out.trans (hb0.mono HU0.out.size)
  have Y0_0 := Lib.hid (X0_0.out.keep hb0)
  have Y1_0 := Lib.hid (X1_0.out.keep hb0)
  have lc1_0 : w0.cell? ⟨w.heap.size + 1, 0, none⟩ = some (.slice A1 len1 cap1) := Y1_0.out.cell (i := 0) rfl
  have ld1_0 : w0.cell? ⟨w.heap.size + 1, 1, none⟩ = some (.int .i64 K1) := Y1_0.out.cell (i := 1) rfl
  have le1_0 := Y1_0.out.lt
  have lf0_0 : w.heap.size < w0.heap.size := by omega
  have sz0 := HV0.out.size
  clear hbv0 hR0 hb0 HU0 X0_0 X1_0
  go_wp2_with fail
  obtain ⟨u1, hu1⟩ : ∃ u1, u1 = (w0.alloc (Obj.cells z0.cells 29)).alloc (Obj.cells #[.bool z0.ng, .bool z0.ov, .slice B0 (dg z0.sz).length c0] 32) := ⟨_, rfl⟩
  rw [← hu1]
  obtain ⟨g0, hg0⟩ : ∃ g0, g0 = w0.heap.size := ⟨_, rfl⟩
  have gw0 : w.heap.size ≤ g0 := by rw [hg0]; exact sz0
  have HU1 : Hid (Below w.heap.size w u1) := by rw [hu1]; exact (HV0.out.alloc HV0.out.size _).alloc (by simp; omega) _
  have X0_1 : Hid (Blk u1 (w.heap.size) #[.slice A0 len0 cap0, .int .i64 K0] 24) := by rw [hu1]; exact (Y0_0.out.alloc _).alloc _
  have X1_1 : Hid (Blk u1 (w.heap.size + 1) #[.slice A1 len1 cap1, .int .i64 K1] 24) := by rw [hu1]; exact (Y1_0.out.alloc _).alloc _
  have BA0_1 : Hid (Blk u1 g0 z0.cells 29) := by rw [hu1, hg0]; exact (Blk.new _ _ _).alloc _
  have BB0_1 : Hid (BigAt u1 (g0 + 1) z0) := by rw [hu1, hg0]; exact ⟨B0, c0, Blk.new' _ _ _ (by simp), HR0.out.below (((Below.refl _ _).alloc (Nat.le_refl _) _).alloc (by simp) _)⟩
  rw [← hg0]
  clear hu1 hg0 HR0 HV0 sz0 Y0_0 Y1_0 lc1_0 ld1_0 le1_0 lf0_0
  refine (lawOf_r _ z1 _ (HN1.out.below HU1.out)).mono ?_
  rintro e w1 ⟨⟨bv1, rfl, hbv1⟩, hb1⟩
  obtain ⟨B1, c1, rfl, hR1⟩ := hbv1.opened
  have HR1 := Lib.hid hR1
  have HV1 : Hid (Below w.heap.size w w1) := HU1.out.trans (hb1.mono HU1.out.size)
  have Y0_1 := Lib.hid (X0_1.out.keep hb1)
  have Y1_1 := Lib.hid (X1_1.out.keep hb1)
  have YA0_1 := Lib.hid (BA0_1.out.keep hb1)
  have YB0_1 := Lib.hid (BB0_1.out.keep hb1)
  have sz1 := HV1.out.size
  clear hbv1 hR1 hb1 HU1 X0_1 X1_1 BA0_1 BB0_1
  have ra0 := YA0_1.out.row?_all 18 (by simp)
  have rl0 := YA0_1.out.lt
  go_wp2_with fail
  clear ra0 rl0
  obtain ⟨u2, hu2⟩ : ∃ u2, u2 = (w1.alloc (Obj.cells z1.cells 29)).alloc (Obj.cells #[.bool z1.ng, .bool z1.ov, .slice B1 (dg z1.sz).length c1] 32) := ⟨_, rfl⟩
  rw [← hu2]
  obtain ⟨g1, hg1⟩ : ∃ g1, g1 = w1.heap.size := ⟨_, rfl⟩
  have gw1 : w.heap.size ≤ g1 := by rw [hg1]; exact sz1
  have HU2 : Hid (Below w.heap.size w u2) := by rw [hu2]; exact (HV1.out.alloc HV1.out.size _).alloc (by simp; omega) _
  have X0_2 : Hid (Blk u2 (w.heap.size) #[.slice A0 len0 cap0, .int .i64 K0] 24) := by rw [hu2]; exact (Y0_1.out.alloc _).alloc _
  have X1_2 : Hid (Blk u2 (w.heap.size + 1) #[.slice A1 len1 cap1, .int .i64 K1] 24) := by rw [hu2]; exact (Y1_1.out.alloc _).alloc _
  have BA0_2 : Hid (Blk u2 g0 z0.cells 29) := by rw [hu2]; exact (YA0_1.out.alloc _).alloc _
  have BB0_2 : Hid (BigAt u2 (g0 + 1) z0) := by rw [hu2]; exact (YB0_1.out.keep ((Below.refl _ _).alloc (Nat.le_refl _) _)).keep ((Below.refl _ _).alloc (Nat.le_refl _) _)
  have BA1_2 : Hid (Blk u2 g1 z1.cells 29) := by rw [hu2, hg1]; exact (Blk.new _ _ _).alloc _
  have BB1_2 : Hid (BigAt u2 (g1 + 1) z1) := by rw [hu2, hg1]; exact ⟨B1, c1, Blk.new' _ _ _ (by simp), HR1.out.below (((Below.refl _ _).alloc (Nat.le_refl _) _).alloc (by simp) _)⟩
  rw [← hg1]
  clear hu2 hg1 HR1 HV1 sz1 Y0_1 Y1_1 YA0_1 YB0_1
  have BA0 := BA0_2
  have BB0 := BB0_2
  have ra0 := BA0.out.row?_all 18 (by simp)
  have BA1 := BA1_2
  have BB1 := BB1_2
  have ra1 := BA1.out.row?_all 18 (by simp)
  have HB := HU2
  clear HU2 X0_2 X1_2 BA0_2 BB0_2 BA1_2 BB1_2
  cases ho0 : z0.ov with
  | true =>
    have HO0 := Lib.hid ho0
    clear ho0
    (first | (go_at_call 15; refine (awake1_c _).mono ?_; rintro e wx ⟨rfl, hbx⟩; replace BA0 := Lib.hid (BA0.out.keep hbx); replace ra0 := BA0.out.row?_all 18 (by simp); replace BA1 := Lib.hid (BA1.out.keep hbx); replace ra1 := BA1.out.row?_all 18 (by simp); replace HB := Lib.hid (HB.out.trans (hbx.mono HB.out.size)); clear hbx) | (go_at_call 14; with_reducible refine (over_x HO0).mono ?_; rintro e wx ⟨rfl, hbx⟩; replace BA0 := Lib.hid (BA0.out.keep hbx); replace ra0 := BA0.out.row?_all 18 (by simp); replace BA1 := Lib.hid (BA1.out.keep hbx); replace ra1 := BA1.out.row?_all 18 (by simp); replace HB := Lib.hid (HB.out.trans (hbx.mono HB.out.size)); clear hbx))
    go_wp2_with (first | (go_at_call 15; refine (awake1_c _).mono ?_; rintro e wx ⟨rfl, hbx⟩; replace BA0 := Lib.hid (BA0.out.keep hbx); replace ra0 := BA0.out.row?_all 18 (by simp); replace BA1 := Lib.hid (BA1.out.keep hbx); replace ra1 := BA1.out.row?_all 18 (by simp); replace HB := Lib.hid (HB.out.trans (hbx.mono HB.out.size)); clear hbx) | (go_at_call 14; with_reducible refine (over_x HO0).mono ?_; rintro e wx ⟨rfl, hbx⟩; replace BA0 := Lib.hid (BA0.out.keep hbx); replace ra0 := BA0.out.row?_all 18 (by simp); replace BA1 := Lib.hid (BA1.out.keep hbx); replace ra1 := BA1.out.row?_all 18 (by simp); replace HB := Lib.hid (HB.out.trans (hbx.mono HB.out.size)); clear hbx))
    go_ret
    exact ⟨rfl, HB.out⟩
  | false =>
    cases ho1 : z1.ov with
    | true =>
      have HO0 := Lib.hid ho0
      have HO1 := Lib.hid ho1
      clear ho0 ho1
      (first | (go_at_call 15; refine (awake1_c _).mono ?_; rintro e wx ⟨rfl, hbx⟩; replace BA0 := Lib.hid (BA0.out.keep hbx); replace ra0 := BA0.out.row?_all 18 (by simp); replace BA1 := Lib.hid (BA1.out.keep hbx); replace ra1 := BA1.out.row?_all 18 (by simp); replace HB := Lib.hid (HB.out.trans (hbx.mono HB.out.size)); clear hbx) | (go_at_call 14; with_reducible refine (over_x HO0).mono ?_; rintro e wx ⟨rfl, hbx⟩; replace BA0 := Lib.hid (BA0.out.keep hbx); replace ra0 := BA0.out.row?_all 18 (by simp); replace BA1 := Lib.hid (BA1.out.keep hbx); replace ra1 := BA1.out.row?_all 18 (by simp); replace HB := Lib.hid (HB.out.trans (hbx.mono HB.out.size)); clear hbx) | (go_at_call 14; with_reducible refine (over_x HO1).mono ?_; rintro e wx ⟨rfl, hbx⟩; replace BA0 := Lib.hid (BA0.out.keep hbx); replace ra0 := BA0.out.row?_all 18 (by simp); replace BA1 := Lib.hid (BA1.out.keep hbx); replace ra1 := BA1.out.row?_all 18 (by simp); replace HB := Lib.hid (HB.out.trans (hbx.mono HB.out.size)); clear hbx))
      go_wp2_with (first | (go_at_call 15; refine (awake1_c _).mono ?_; rintro e wx ⟨rfl, hbx⟩; replace BA0 := Lib.hid (BA0.out.keep hbx); replace ra0 := BA0.out.row?_all 18 (by simp); replace BA1 := Lib.hid (BA1.out.keep hbx); replace ra1 := BA1.out.row?_all 18 (by simp); replace HB := Lib.hid (HB.out.trans (hbx.mono HB.out.size)); clear hbx) | (go_at_call 14; with_reducible refine (over_x HO0).mono ?_; rintro e wx ⟨rfl, hbx⟩; replace BA0 := Lib.hid (BA0.out.keep hbx); replace ra0 := BA0.out.row?_all 18 (by simp); replace BA1 := Lib.hid (BA1.out.keep hbx); replace ra1 := BA1.out.row?_all 18 (by simp); replace HB := Lib.hid (HB.out.trans (hbx.mono HB.out.size)); clear hbx) | (go_at_call 14; with_reducible refine (over_x HO1).mono ?_; rintro e wx ⟨rfl, hbx⟩; replace BA0 := Lib.hid (BA0.out.keep hbx); replace ra0 := BA0.out.row?_all 18 (by simp); replace BA1 := Lib.hid (BA1.out.keep hbx); replace ra1 := BA1.out.row?_all 18 (by simp); replace HB := Lib.hid (HB.out.trans (hbx.mono HB.out.size)); clear hbx))
      go_ret
      exact ⟨rfl, HB.out⟩
    | false =>
      obtain ⟨l1, l2, l3, l4⟩ := signs_law z0 z1 ho0 ho1
      have HO0 := Lib.hid ho0
      have HO1 := Lib.hid ho1
      obtain ⟨zp, hzp⟩ : ∃ z, z0.mul z1 = z := ⟨_, rfl⟩
      obtain ⟨zn, hzn⟩ : ∃ z, z0.neg = z := ⟨_, rfl⟩
      rw [hzp] at l1
      rw [hzn] at l2 l3 l4
      have HP := Lib.hid hzp
      have HN := Lib.hid hzn
      have HA := Lib.hid l3
      have HT := Lib.hid txt_zero
      have HBN : Hid (bl zn.sz = bl z0.sz) := l4.symm
      obtain ⟨s0, hs0⟩ : ∃ s, z0.sign = s := ⟨_, rfl⟩
      obtain ⟨s1, hs1⟩ : ∃ s, z1.sign = s := ⟨_, rfl⟩
      have hq0 := sign_bnd z0
      have hq1 := sign_bnd z1
      rw [hs0] at l1 l2 hq0
      rw [hs1] at l1 hq1
      have HS0 := Lib.hid hs0
      have HS1 := Lib.hid hs1
      have HSN := Lib.hid l2
      have hw0 : wrap64 (-s0) = -s0 := by rcases hq0 with h | h | h <;> rw [h] <;> unfold wrap64 <;> omega
      have hw1 : wrap64 (s0 * s1) = s0 * s1 := by rcases hq0 with h | h | h <;> rcases hq1 with h' | h' | h' <;> rw [h, h'] <;> unfold wrap64 <;> omega
      clear ho0 ho1 hzp hzn l2 l3 l4 hs0 hs1 hq0 hq1
      (first | (go_at_call 14; with_reducible refine (over_x HO0).mono ?_; rintro e wx ⟨rfl, hbx⟩; replace BA0 := Lib.hid (BA0.out.keep hbx); replace ra0 := BA0.out.row?_all 18 (by simp); replace BA1 := Lib.hid (BA1.out.keep hbx); replace ra1 := BA1.out.row?_all 18 (by simp); replace HB := Lib.hid (HB.out.trans (hbx.mono HB.out.size)); clear hbx) | (go_at_call 14; with_reducible refine (over_x HO1).mono ?_; rintro e wx ⟨rfl, hbx⟩; replace BA0 := Lib.hid (BA0.out.keep hbx); replace ra0 := BA0.out.row?_all 18 (by simp); replace BA1 := Lib.hid (BA1.out.keep hbx); replace ra1 := BA1.out.row?_all 18 (by simp); replace HB := Lib.hid (HB.out.trans (hbx.mono HB.out.size)); clear hbx) | (go_at_call 19; with_reducible refine (mul_e HP).mono ?_; rintro e wx ⟨rfl, hbx⟩; replace BA0 := Lib.hid (BA0.out.keep hbx); replace ra0 := BA0.out.row?_all 18 (by simp); replace BA1 := Lib.hid (BA1.out.keep hbx); replace ra1 := BA1.out.row?_all 18 (by simp); replace HB := Lib.hid (HB.out.trans (hbx.mono HB.out.size)); clear hbx))
      go_wp2_with (first | (go_at_call 14; with_reducible refine (over_x HO0).mono ?_; rintro e wx ⟨rfl, hbx⟩; replace BA0 := Lib.hid (BA0.out.keep hbx); replace ra0 := BA0.out.row?_all 18 (by simp); replace BA1 := Lib.hid (BA1.out.keep hbx); replace ra1 := BA1.out.row?_all 18 (by simp); replace HB := Lib.hid (HB.out.trans (hbx.mono HB.out.size)); clear hbx) | (go_at_call 14; with_reducible refine (over_x HO1).mono ?_; rintro e wx ⟨rfl, hbx⟩; replace BA0 := Lib.hid (BA0.out.keep hbx); replace ra0 := BA0.out.row?_all 18 (by simp); replace BA1 := Lib.hid (BA1.out.keep hbx); replace ra1 := BA1.out.row?_all 18 (by simp); replace HB := Lib.hid (HB.out.trans (hbx.mono HB.out.size)); clear hbx) | (go_at_call 19; with_reducible refine (mul_e HP).mono ?_; rintro e wx ⟨rfl, hbx⟩; replace BA0 := Lib.hid (BA0.out.keep hbx); replace ra0 := BA0.out.row?_all 18 (by simp); replace BA1 := Lib.hid (BA1.out.keep hbx); replace ra1 := BA1.out.row?_all 18 (by simp); replace HB := Lib.hid (HB.out.trans (hbx.mono HB.out.size)); clear hbx))
      obtain ⟨u3, hu3⟩ : ∃ u3, u3 = wx.alloc (Obj.cells zp.cells 29) := ⟨_, rfl⟩
      rw [← hu3]
      obtain ⟨g2, hg2⟩ : ∃ g2, g2 = wx.heap.size := ⟨_, rfl⟩
      replace HB : Hid (Below w.heap.size w u3) := by rw [hu3]; exact HB.out.alloc HB.out.size _
      replace BA0 : Hid (Blk u3 g0 z0.cells 29) := by rw [hu3]; exact BA0.out.alloc _
      replace BA1 : Hid (Blk u3 g1 z1.cells 29) := by rw [hu3]; exact BA1.out.alloc _
      have BA2 : Hid (Blk u3 g2 zp.cells 29) := by rw [hu3, hg2]; exact Blk.new _ _ _
      rw [← hg2]
      clear ra0 ra1 hu3 hg2
      have ra0 := @inh_row _ _ _ _ _ (BA0.out.row?_all 18 (by simp))
      have ra1 := @inh_row _ _ _ _ _ (BA1.out.row?_all 18 (by simp))
      have ra2 := @inh_row _ _ _ _ _ (BA2.out.row?_all 18 (by simp))
      cases hop : zp.ov with
      | true =>
        have HOP := Lib.hid hop
        clear hop l1
        refine wp_region_ghost' 41 (fun _ => none) (fun _ => []) (by kernel_rfl) (by kernel_rfl) ?_; refine ex_listH ?_; apply Exists.intro; refine ex_listH ?_; apply Exists.intro; refine ex_listH ?_; apply Exists.intro; refine ex_listH ?_; apply Exists.intro; refine ex_listH ?_; apply Exists.intro; refine ex_listH ?_; apply Exists.intro; refine ex_listH ?_; apply Exists.intro; refine ex_listH ?_; apply Exists.intro; refine ex_listH ?_; apply Exists.intro; refine ex_listH ?_; apply Exists.intro; refine ex_listH ?_; apply Exists.intro; refine ex_listH ?_; apply Exists.intro; refine ex_listH ?_; apply Exists.intro; refine ex_listH ?_; apply Exists.intro; refine ex_listH ?_; apply Exists.intro; refine ex_listH ?_; apply Exists.intro; refine ex_listH ?_; apply Exists.intro; refine ex_listH ?_; apply Exists.intro; refine ex_listH ?_; apply Exists.intro; refine ex_listH ?_; apply Exists.intro; refine ex_listH ?_; apply Exists.intro; refine ex_listH ?_; apply Exists.intro; refine ex_listH ?_; apply Exists.intro; refine ex_listH ?_; apply Exists.intro; refine ex_listH ?_; apply Exists.intro; refine ex_listH ?_; apply Exists.intro; refine ex_listH ?_; apply Exists.intro; refine ex_listH ?_; apply Exists.intro; refine ex_listH ?_; apply Exists.intro; refine ex_listH ?_; apply Exists.intro; refine ex_listH ?_; apply Exists.intro; refine ex_listH ?_; apply Exists.intro; refine ex_listH ?_; apply Exists.intro; refine ex_listH ?_; apply Exists.intro; refine ex_listH ?_; apply Exists.intro; refine ex_listH ?_; apply Exists.intro; refine ex_listH ?_; apply Exists.intro; refine ex_listH ?_; apply Exists.intro; refine ex_listH ?_; apply Exists.intro; refine ex_listH ?_; apply Exists.intro; refine ex_listH ?_; apply Exists.intro; refine ⟨[], fun gg NN hN => ?_⟩; simp only [List.append_eq, List.cons_append, List.nil_append, List.take_succ_cons, List.take_zero, List.drop_succ_cons, List.drop_zero]; (repeat (first | (refine lexH_quiet rfl ?_; go_big_quiet_step (first | exact rfl | (first | (go_at_call 15; with_reducible exact calls_inh (awake1_c _)) | (go_at_call 14; with_reducible exact calls_inh (over_x HOP)) | (go_at_call 23; with_reducible exact calls_inh (sign_x HS0)) | (go_at_call 23; with_reducible exact calls_inh (sign_x HS1)) | (go_at_call 23; with_reducible exact calls_inh (sign_x HSN)) | (go_at_call 24; with_reducible exact calls_inh (neg_e HN)) | (go_at_call 18; with_reducible exact calls_inh (add_e HA)) | (go_at_call 17; with_reducible exact calls_inh (text_x HT)) | (go_at_call 13; with_reducible exact calls_inh (bits_x HBN)) | (go_at_call 13; with_reducible exact calls_inh (bits_I _ _)))); refine wpQuiet_nil ⟨?hd, ?_⟩; (case hd => (simp only [dstVh, Array.getD_eq_getD_getElem?, List.getElem?_toArray, List.getElem?_cons_zero, List.getElem?_cons_succ, Option.getD_some, List.getD_cons_zero, List.getD_cons_succ]; exact rfl))) | (refine lexH_ghost _ (by rfl) (by rfl) ?hex ?_; (case hex => (intro px; fail)); simp only [Act.put, List.setIfInBounds_toArray, List.set_cons_succ, List.set_cons_zero])))
        refine lexH_nil ?_
        intro u4 hb4' hh
        have hb4 : Below u3.heap.size u3 u4 := hb4'
        refine wpList_nil ?_
        go_wp2_with fail
        go_ret
        exact ⟨rfl, HB.out.trans (hb4.mono HB.out.size)⟩
      | false =>
        have HOP := Lib.hid hop
        have HSP : Hid (zp.sign = s0 * s1) := l1.resolve_left (by rw [hop]; decide)
        clear hop l1
        refine wp_region_ghost' 41 (fun _ => none) (fun _ => []) (by kernel_rfl) (by kernel_rfl) ?_; refine ex_listH ?_; apply Exists.intro; refine ex_listH ?_; apply Exists.intro; refine ex_listH ?_; apply Exists.intro; refine ex_listH ?_; apply Exists.intro; refine ex_listH ?_; apply Exists.intro; refine ex_listH ?_; apply Exists.intro; refine ex_listH ?_; apply Exists.intro; refine ex_listH ?_; apply Exists.intro; refine ex_listH ?_; apply Exists.intro; refine ex_listH ?_; apply Exists.intro; refine ex_listH ?_; apply Exists.intro; refine ex_listH ?_; apply Exists.intro; refine ex_listH ?_; apply Exists.intro; refine ex_listH ?_; apply Exists.intro; refine ex_listH ?_; apply Exists.intro; refine ex_listH ?_; apply Exists.intro; refine ex_listH ?_; apply Exists.intro; refine ex_listH ?_; apply Exists.intro; refine ex_listH ?_; apply Exists.intro; refine ex_listH ?_; apply Exists.intro; refine ex_listH ?_; apply Exists.intro; refine ex_listH ?_; apply Exists.intro; refine ex_listH ?_; apply Exists.intro; refine ex_listH ?_; apply Exists.intro; refine ex_listH ?_; apply Exists.intro; refine ex_listH ?_; apply Exists.intro; refine ex_listH ?_; apply Exists.intro; refine ex_listH ?_; apply Exists.intro; refine ex_listH ?_; apply Exists.intro; refine ex_listH ?_; apply Exists.intro; refine ex_listH ?_; apply Exists.intro; refine ex_listH ?_; apply Exists.intro; refine ex_listH ?_; apply Exists.intro; refine ex_listH ?_; apply Exists.intro; refine ex_listH ?_; apply Exists.intro; refine ex_listH ?_; apply Exists.intro; refine ex_listH ?_; apply Exists.intro; refine ex_listH ?_; apply Exists.intro; refine ex_listH ?_; apply Exists.intro; refine ex_listH ?_; apply Exists.intro; refine ex_listH ?_; apply Exists.intro; refine ⟨[], fun gg NN hN => ?_⟩; simp only [List.append_eq, List.cons_append, List.nil_append, List.take_succ_cons, List.take_zero, List.drop_succ_cons, List.drop_zero]; (repeat (first | (refine lexH_quiet rfl ?_; go_big_quiet_step (first | exact rfl | (first | (go_at_call 15; with_reducible exact calls_inh (awake1_c _)) | (go_at_call 14; with_reducible exact calls_inh (over_x HOP)) | (go_at_call 23; with_reducible exact calls_inh (sign_x HS0)) | (go_at_call 23; with_reducible exact calls_inh (sign_x HS1)) | (go_at_call 23; with_reducible exact calls_inh (sign_x HSN)) | (go_at_call 23; with_reducible exact calls_inh (sign_x HSP)) | (go_at_call 24; with_reducible exact calls_inh (neg_e HN)) | (go_at_call 18; with_reducible exact calls_inh (add_e HA)) | (go_at_call 17; with_reducible exact calls_inh (text_x HT)) | (go_at_call 13; with_reducible exact calls_inh (bits_x HBN)) | (go_at_call 13; with_reducible exact calls_inh (bits_I _ _)))); refine wpQuiet_nil ⟨?hd, ?_⟩; (case hd => (simp only [dstVh, Array.getD_eq_getD_getElem?, List.getElem?_toArray, List.getElem?_cons_zero, List.getElem?_cons_succ, Option.getD_some, List.getD_cons_zero, List.getD_cons_succ]; exact rfl))) | (refine lexH_ghost _ (by rfl) (by rfl) ?hex ?_; (case hex => (intro px; fail)); simp only [Act.put, List.setIfInBounds_toArray, List.set_cons_succ, List.set_cons_zero])))
        refine lexH_nil ?_
        intro u4 hb4' hh
        have hb4 : Below u3.heap.size u3 u4 := hb4'
        refine wpList_nil ?_
        go_wp2_with fail
        go_ret
        exact ⟨rfl, HB.out.trans (hb4.mono HB.out.size)⟩
end Go.Proofs.Ytkepdjmgmjhejaa
