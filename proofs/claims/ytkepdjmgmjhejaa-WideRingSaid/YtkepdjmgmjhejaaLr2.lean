/- The walk of WideRing. -/
import Derived.Test.YtkepdjmgmjhejaaLg
namespace Go.Proofs.Ytkepdjmgmjhejaa
set_option linter.unusedSimpArgs false
open Go.RowKit

set_option maxRecDepth 100000 in
set_option maxHeartbeats 1000000 in
/-- The law's eq, of numbers that are one. -/
theorem eq_e {x y : WI} (h : Hid (x = y)) {w : World} : Calls Try.prog 16 #[.agg x.cells, .agg y.cells] w fun e w' => e = .returned (.bool true) ∧ Below w.heap.size w w' := by
  have hxy := h.out
  subst hxy
  obtain ⟨S, hS⟩ : ∃ S, S = (txt x.v).toArray := ⟨_, rfl⟩
  have HT : Hid (str (txt x.v) = .string ⟨S⟩) := by rw [hS]; exact rfl
  clear h hS
  go_enter Try.func16, Try.ntmps16
  go_wp2_with fail
  have r0 := @inh_row _ _ _ _ _ (show ((w.alloc (Obj.cells x.cells 29)).alloc (Obj.cells x.cells 29)).row? w.heap.size 0 18 = some x.cells from ((Blk.new _ _ _).alloc _).row?_all 18 (by simp))
  have r1 := @inh_row _ _ _ _ _ (show ((w.alloc (Obj.cells x.cells 29)).alloc (Obj.cells x.cells 29)).row? (w.heap.size + 1) 0 18 = some x.cells from (Blk.new' _ _ _ (by simp)).row?_all 18 (by simp))
  have HB : Hid (Below w.heap.size w ((w.alloc (Obj.cells x.cells 29)).alloc (Obj.cells x.cells 29))) := (by repeat (first | exact Below.refl _ _ | exact Below_of_hid (by assumption) | refine Below.drew ?_ | refine below_drewN ?_ _ | refine Below_putRow ?_ (by first | omega | (simp; done) | (simp; omega) | fail) _ _ | refine Below.alloc ?_ (by first | omega | (simp; done) | (simp; omega) | fail) _ | refine Below.setCell ?_ (by first | omega | (simp; done) | (simp; omega) | fail) _ | refine Below.trans ?_ (Below.mono (by assumption) (by first | omega | (simp; done) | (simp; omega) | fail))))
  refine wp_region_ghost' 6 (fun _ => none) (fun _ => []) (by kernel_rfl) (by kernel_rfl) ?_; refine ex_listH ?_; apply Exists.intro; refine ex_listH ?_; apply Exists.intro; refine ex_listH ?_; apply Exists.intro; refine ex_listH ?_; apply Exists.intro; refine ex_listH ?_; apply Exists.intro; refine ex_listH ?_; apply Exists.intro; refine ⟨[], fun gg NN hN => ?_⟩; simp only [List.append_eq, List.cons_append, List.nil_append, List.take_succ_cons, List.take_zero, List.drop_succ_cons, List.drop_zero]; (repeat (first | (refine lexH_quiet rfl ?_; go_big_quiet_step (first | exact rfl | ((go_at_call 17; with_reducible exact calls_inh (text_x HT)))); refine wpQuiet_nil ⟨?hd, ?_⟩; (case hd => (simp only [dstVh, Array.getD_eq_getD_getElem?, List.getElem?_toArray, List.getElem?_cons_zero, List.getElem?_cons_succ, Option.getD_some, List.getD_cons_zero, List.getD_cons_succ]; exact rfl))) | (refine lexH_ghost _ (by rfl) (by rfl) ?hex ?_; (case hex => (intro px; fail)); simp only [Act.put, List.setIfInBounds_toArray, List.set_cons_succ, List.set_cons_zero])))
  refine lexH_nil ?_
  intro u1 hbn' hh
  refine wpList_nil ?_
  go_wp2_with fail
  go_ret
  exact ⟨rfl, HB.out.trans (Below.mono hbn' HB.out.size)⟩
set_option maxRecDepth 100000 in
set_option maxHeartbeats 4000000 in
theorem wideRing_c (v0 v1 v2 : Value) (z0 z1 z2 : WI) (w : World) (h0 : NumIs w v0 z0) (h1 : NumIs w v1 z1) (h2 : NumIs w v2 z2) :
    Calls Try.prog 3 #[v0, v1, v2] w fun e w' => e = .returned (.bool true) ∧ Below w.heap.size w w' := by
  have h0' := h0
  obtain ⟨A0, len0, cap0, T0, K0, rfl, -, -, -, -⟩ := h0'
  have HN0 := Lib.hid h0
  have h1' := h1
  obtain ⟨A1, len1, cap1, T1, K1, rfl, -, -, -, -⟩ := h1'
  have HN1 := Lib.hid h1
  have h2' := h2
  obtain ⟨A2, len2, cap2, T2, K2, rfl, -, -, -, -⟩ := h2'
  have HN2 := Lib.hid h2
  clear h0 h1 h2
  go_enter Try.func3, Try.ntmps3
  go_wp2_with fail
  have HU0 : Hid (Below w.heap.size w ((((w).alloc (Obj.cells #[.slice A0 len0 cap0, .int .i64 K0] 24)).alloc (Obj.cells #[.slice A1 len1 cap1, .int .i64 K1] 24)).alloc (Obj.cells #[.slice A2 len2 cap2, .int .i64 K2] 24))) := (by repeat (first | exact Below.refl _ _ | exact Below_of_hid (by assumption) | refine Below.drew ?_ | refine below_drewN ?_ _ | refine Below_putRow ?_ (by first | omega | (simp; done) | (simp; omega) | fail) _ _ | refine Below.alloc ?_ (by first | omega | (simp; done) | (simp; omega) | fail) _ | refine Below.setCell ?_ (by first | omega | (simp; done) | (simp; omega) | fail) _ | refine Below.trans ?_ (Below.mono (by assumption) (by first | omega | (simp; done) | (simp; omega) | fail))))
  have X0_0 : Hid (Blk ((((w).alloc (Obj.cells #[.slice A0 len0 cap0, .int .i64 K0] 24)).alloc (Obj.cells #[.slice A1 len1 cap1, .int .i64 K1] 24)).alloc (Obj.cells #[.slice A2 len2 cap2, .int .i64 K2] 24)) (w.heap.size) #[.slice A0 len0 cap0, .int .i64 K0] 24) := ((Blk.new' _ _ _ (by simp)).alloc _).alloc _
  have X1_0 : Hid (Blk ((((w).alloc (Obj.cells #[.slice A0 len0 cap0, .int .i64 K0] 24)).alloc (Obj.cells #[.slice A1 len1 cap1, .int .i64 K1] 24)).alloc (Obj.cells #[.slice A2 len2 cap2, .int .i64 K2] 24)) (w.heap.size + 1) #[.slice A1 len1 cap1, .int .i64 K1] 24) := (Blk.new' _ _ _ (by simp)).alloc _
  have X2_0 : Hid (Blk ((((w).alloc (Obj.cells #[.slice A0 len0 cap0, .int .i64 K0] 24)).alloc (Obj.cells #[.slice A1 len1 cap1, .int .i64 K1] 24)).alloc (Obj.cells #[.slice A2 len2 cap2, .int .i64 K2] 24)) (w.heap.size + 1 + 1) #[.slice A2 len2 cap2, .int .i64 K2] 24) := Blk.new' _ _ _ (by simp)
  refine (lawOf_r _ z0 _ (HN0.out.below HU0.out)).mono ?_
  rintro e w0 ⟨⟨bv0, rfl, hbv0⟩, hb0⟩
  obtain ⟨B0, c0, rfl, hR0⟩ := hbv0.opened
  have HR0 := Lib.hid hR0
  have HV0 : Hid (Below w.heap.size w w0) := HU0.out.trans (hb0.mono HU0.out.size)
  have Y0_0 := Lib.hid (X0_0.out.keep hb0)
  have Y1_0 := Lib.hid (X1_0.out.keep hb0)
  have Y2_0 := Lib.hid (X2_0.out.keep hb0)
  have lc1_0 : w0.cell? ⟨w.heap.size + 1, 0, none⟩ = some (.slice A1 len1 cap1) := Y1_0.out.cell (i := 0) rfl
  have ld1_0 : w0.cell? ⟨w.heap.size + 1, 1, none⟩ = some (.int .i64 K1) := Y1_0.out.cell (i := 1) rfl
  have le1_0 := Y1_0.out.lt
  have lf0_0 : w.heap.size < w0.heap.size := by omega
  have sz0 := HV0.out.size
  clear hbv0 hR0 hb0 HU0 X0_0 X1_0 X2_0
  go_wp2_with fail
  obtain ⟨u1, hu1⟩ : ∃ u1, u1 = (w0.alloc (Obj.cells z0.cells 29)).alloc (Obj.cells #[.bool z0.ng, .bool z0.ov, .slice B0 (dg z0.sz).length c0] 32) := ⟨_, rfl⟩
  rw [← hu1]
  obtain ⟨g0, hg0⟩ : ∃ g0, g0 = w0.heap.size := ⟨_, rfl⟩
  have gw0 : w.heap.size ≤ g0 := by rw [hg0]; exact sz0
  have HU1 : Hid (Below w.heap.size w u1) := by rw [hu1]; exact (HV0.out.alloc HV0.out.size _).alloc (by simp; omega) _
  have X0_1 : Hid (Blk u1 (w.heap.size) #[.slice A0 len0 cap0, .int .i64 K0] 24) := by rw [hu1]; exact (Y0_0.out.alloc _).alloc _
  have X1_1 : Hid (Blk u1 (w.heap.size + 1) #[.slice A1 len1 cap1, .int .i64 K1] 24) := by rw [hu1]; exact (Y1_0.out.alloc _).alloc _
  have X2_1 : Hid (Blk u1 (w.heap.size + 1 + 1) #[.slice A2 len2 cap2, .int .i64 K2] 24) := by rw [hu1]; exact (Y2_0.out.alloc _).alloc _
  have BA0_1 : Hid (Blk u1 g0 z0.cells 29) := by rw [hu1, hg0]; exact (Blk.new _ _ _).alloc _
  have BB0_1 : Hid (BigAt u1 (g0 + 1) z0) := by rw [hu1, hg0]; exact ⟨B0, c0, Blk.new' _ _ _ (by simp), HR0.out.below (((Below.refl _ _).alloc (Nat.le_refl _) _).alloc (by simp) _)⟩
  rw [← hg0]
  clear hu1 hg0 HR0 HV0 sz0 Y0_0 Y1_0 Y2_0 lc1_0 ld1_0 le1_0 lf0_0
  refine (lawOf_r _ z1 _ (HN1.out.below HU1.out)).mono ?_
  rintro e w1 ⟨⟨bv1, rfl, hbv1⟩, hb1⟩
  obtain ⟨B1, c1, rfl, hR1⟩ := hbv1.opened
  have HR1 := Lib.hid hR1
  have HV1 : Hid (Below w.heap.size w w1) := HU1.out.trans (hb1.mono HU1.out.size)
  have Y0_1 := Lib.hid (X0_1.out.keep hb1)
  have Y1_1 := Lib.hid (X1_1.out.keep hb1)
  have Y2_1 := Lib.hid (X2_1.out.keep hb1)
  have YA0_1 := Lib.hid (BA0_1.out.keep hb1)
  have YB0_1 := Lib.hid (BB0_1.out.keep hb1)
  have lc2_1 : w1.cell? ⟨w.heap.size + 1 + 1, 0, none⟩ = some (.slice A2 len2 cap2) := Y2_1.out.cell (i := 0) rfl
  have ld2_1 : w1.cell? ⟨w.heap.size + 1 + 1, 1, none⟩ = some (.int .i64 K2) := Y2_1.out.cell (i := 1) rfl
  have le2_1 := Y2_1.out.lt
  have lf0_1 : w.heap.size < w1.heap.size := by omega
  have lf1_1 : w.heap.size + 1 < w1.heap.size := by omega
  have sz1 := HV1.out.size
  clear hbv1 hR1 hb1 HU1 X0_1 X1_1 X2_1 BA0_1 BB0_1
  go_wp2_with fail
  obtain ⟨u2, hu2⟩ : ∃ u2, u2 = (w1.alloc (Obj.cells z1.cells 29)).alloc (Obj.cells #[.bool z1.ng, .bool z1.ov, .slice B1 (dg z1.sz).length c1] 32) := ⟨_, rfl⟩
  rw [← hu2]
  obtain ⟨g1, hg1⟩ : ∃ g1, g1 = w1.heap.size := ⟨_, rfl⟩
  have gw1 : w.heap.size ≤ g1 := by rw [hg1]; exact sz1
  have HU2 : Hid (Below w.heap.size w u2) := by rw [hu2]; exact (HV1.out.alloc HV1.out.size _).alloc (by simp; omega) _
  have X0_2 : Hid (Blk u2 (w.heap.size) #[.slice A0 len0 cap0, .int .i64 K0] 24) := by rw [hu2]; exact (Y0_1.out.alloc _).alloc _
  have X1_2 : Hid (Blk u2 (w.heap.size + 1) #[.slice A1 len1 cap1, .int .i64 K1] 24) := by rw [hu2]; exact (Y1_1.out.alloc _).alloc _
  have X2_2 : Hid (Blk u2 (w.heap.size + 1 + 1) #[.slice A2 len2 cap2, .int .i64 K2] 24) := by rw [hu2]; exact (Y2_1.out.alloc _).alloc _
  have BA0_2 : Hid (Blk u2 g0 z0.cells 29) := by rw [hu2]; exact (YA0_1.out.alloc _).alloc _
  have BB0_2 : Hid (BigAt u2 (g0 + 1) z0) := by rw [hu2]; exact (YB0_1.out.keep ((Below.refl _ _).alloc (Nat.le_refl _) _)).keep ((Below.refl _ _).alloc (Nat.le_refl _) _)
  have BA1_2 : Hid (Blk u2 g1 z1.cells 29) := by rw [hu2, hg1]; exact (Blk.new _ _ _).alloc _
  have BB1_2 : Hid (BigAt u2 (g1 + 1) z1) := by rw [hu2, hg1]; exact ⟨B1, c1, Blk.new' _ _ _ (by simp), HR1.out.below (((Below.refl _ _).alloc (Nat.le_refl _) _).alloc (by simp) _)⟩
  rw [← hg1]
  clear hu2 hg1 HR1 HV1 sz1 Y0_1 Y1_1 Y2_1 YA0_1 YB0_1 lc2_1 ld2_1 le2_1 lf0_1 lf1_1
  refine (lawOf_r _ z2 _ (HN2.out.below HU2.out)).mono ?_
  rintro e w2 ⟨⟨bv2, rfl, hbv2⟩, hb2⟩
  obtain ⟨B2, c2, rfl, hR2⟩ := hbv2.opened
  have HR2 := Lib.hid hR2
  have HV2 : Hid (Below w.heap.size w w2) := HU2.out.trans (hb2.mono HU2.out.size)
  have Y0_2 := Lib.hid (X0_2.out.keep hb2)
  have Y1_2 := Lib.hid (X1_2.out.keep hb2)
  have Y2_2 := Lib.hid (X2_2.out.keep hb2)
  have YA0_2 := Lib.hid (BA0_2.out.keep hb2)
  have YB0_2 := Lib.hid (BB0_2.out.keep hb2)
  have YA1_2 := Lib.hid (BA1_2.out.keep hb2)
  have YB1_2 := Lib.hid (BB1_2.out.keep hb2)
  have sz2 := HV2.out.size
  clear hbv2 hR2 hb2 HU2 X0_2 X1_2 X2_2 BA0_2 BB0_2 BA1_2 BB1_2
  have ra0 := YA0_2.out.row?_all 18 (by simp)
  have rl0 := YA0_2.out.lt
  have ra1 := YA1_2.out.row?_all 18 (by simp)
  have rl1 := YA1_2.out.lt
  go_wp2_with fail
  clear ra0 rl0 ra1 rl1
  obtain ⟨u3, hu3⟩ : ∃ u3, u3 = (w2.alloc (Obj.cells z2.cells 29)).alloc (Obj.cells #[.bool z2.ng, .bool z2.ov, .slice B2 (dg z2.sz).length c2] 32) := ⟨_, rfl⟩
  rw [← hu3]
  obtain ⟨g2, hg2⟩ : ∃ g2, g2 = w2.heap.size := ⟨_, rfl⟩
  have gw2 : w.heap.size ≤ g2 := by rw [hg2]; exact sz2
  have HU3 : Hid (Below w.heap.size w u3) := by rw [hu3]; exact (HV2.out.alloc HV2.out.size _).alloc (by simp; omega) _
  have X0_3 : Hid (Blk u3 (w.heap.size) #[.slice A0 len0 cap0, .int .i64 K0] 24) := by rw [hu3]; exact (Y0_2.out.alloc _).alloc _
  have X1_3 : Hid (Blk u3 (w.heap.size + 1) #[.slice A1 len1 cap1, .int .i64 K1] 24) := by rw [hu3]; exact (Y1_2.out.alloc _).alloc _
  have X2_3 : Hid (Blk u3 (w.heap.size + 1 + 1) #[.slice A2 len2 cap2, .int .i64 K2] 24) := by rw [hu3]; exact (Y2_2.out.alloc _).alloc _
  have BA0_3 : Hid (Blk u3 g0 z0.cells 29) := by rw [hu3]; exact (YA0_2.out.alloc _).alloc _
  have BB0_3 : Hid (BigAt u3 (g0 + 1) z0) := by rw [hu3]; exact (YB0_2.out.keep ((Below.refl _ _).alloc (Nat.le_refl _) _)).keep ((Below.refl _ _).alloc (Nat.le_refl _) _)
  have BA1_3 : Hid (Blk u3 g1 z1.cells 29) := by rw [hu3]; exact (YA1_2.out.alloc _).alloc _
  have BB1_3 : Hid (BigAt u3 (g1 + 1) z1) := by rw [hu3]; exact (YB1_2.out.keep ((Below.refl _ _).alloc (Nat.le_refl _) _)).keep ((Below.refl _ _).alloc (Nat.le_refl _) _)
  have BA2_3 : Hid (Blk u3 g2 z2.cells 29) := by rw [hu3, hg2]; exact (Blk.new _ _ _).alloc _
  have BB2_3 : Hid (BigAt u3 (g2 + 1) z2) := by rw [hu3, hg2]; exact ⟨B2, c2, Blk.new' _ _ _ (by simp), HR2.out.below (((Below.refl _ _).alloc (Nat.le_refl _) _).alloc (by simp) _)⟩
  rw [← hg2]
  clear hu3 hg2 HR2 HV2 sz2 Y0_2 Y1_2 Y2_2 YA0_2 YB0_2 YA1_2 YB1_2
  have BA0 := BA0_3
  have BB0 := BB0_3
  have ra0 := BA0.out.row?_all 18 (by simp)
  have BA1 := BA1_3
  have BB1 := BB1_3
  have ra1 := BA1.out.row?_all 18 (by simp)
  have BA2 := BA2_3
  have BB2 := BB2_3
  have ra2 := BA2.out.row?_all 18 (by simp)
  have HB := HU3
  clear HU3 X0_3 X1_3 X2_3 BA0_3 BB0_3 BA1_3 BB1_3 BA2_3 BB2_3
  have h0 : ∀ i : Nat, True := fun _ => trivial
  clear h0
  by_cases b0 : (300 : Int) < (bl z0.sz : Int)
  · (first | (go_at_call 15; refine (awake1_c _).mono ?_; rintro e wx ⟨rfl, hbx⟩; replace BA0 := Lib.hid (BA0.out.keep hbx); replace ra0 := BA0.out.row?_all 18 (by simp); replace BA1 := Lib.hid (BA1.out.keep hbx); replace ra1 := BA1.out.row?_all 18 (by simp); replace BA2 := Lib.hid (BA2.out.keep hbx); replace ra2 := BA2.out.row?_all 18 (by simp); replace HB := Lib.hid (HB.out.trans (hbx.mono HB.out.size)); clear hbx) | (go_at_call 13; with_reducible refine (bits_I _ _).mono ?_; rintro e wx ⟨rfl, hbx⟩; replace BA0 := Lib.hid (BA0.out.keep hbx); replace ra0 := BA0.out.row?_all 18 (by simp); replace BA1 := Lib.hid (BA1.out.keep hbx); replace ra1 := BA1.out.row?_all 18 (by simp); replace BA2 := Lib.hid (BA2.out.keep hbx); replace ra2 := BA2.out.row?_all 18 (by simp); replace HB := Lib.hid (HB.out.trans (hbx.mono HB.out.size)); clear hbx))
    go_wp2_with (first | (go_at_call 15; refine (awake1_c _).mono ?_; rintro e wx ⟨rfl, hbx⟩; replace BA0 := Lib.hid (BA0.out.keep hbx); replace ra0 := BA0.out.row?_all 18 (by simp); replace BA1 := Lib.hid (BA1.out.keep hbx); replace ra1 := BA1.out.row?_all 18 (by simp); replace BA2 := Lib.hid (BA2.out.keep hbx); replace ra2 := BA2.out.row?_all 18 (by simp); replace HB := Lib.hid (HB.out.trans (hbx.mono HB.out.size)); clear hbx) | (go_at_call 13; with_reducible refine (bits_I _ _).mono ?_; rintro e wx ⟨rfl, hbx⟩; replace BA0 := Lib.hid (BA0.out.keep hbx); replace ra0 := BA0.out.row?_all 18 (by simp); replace BA1 := Lib.hid (BA1.out.keep hbx); replace ra1 := BA1.out.row?_all 18 (by simp); replace BA2 := Lib.hid (BA2.out.keep hbx); replace ra2 := BA2.out.row?_all 18 (by simp); replace HB := Lib.hid (HB.out.trans (hbx.mono HB.out.size)); clear hbx))
    go_ret
    exact ⟨rfl, HB.out⟩
  · skip
    by_cases b1 : (300 : Int) < (bl z1.sz : Int)
    · (first | (go_at_call 15; refine (awake1_c _).mono ?_; rintro e wx ⟨rfl, hbx⟩; replace BA0 := Lib.hid (BA0.out.keep hbx); replace ra0 := BA0.out.row?_all 18 (by simp); replace BA1 := Lib.hid (BA1.out.keep hbx); replace ra1 := BA1.out.row?_all 18 (by simp); replace BA2 := Lib.hid (BA2.out.keep hbx); replace ra2 := BA2.out.row?_all 18 (by simp); replace HB := Lib.hid (HB.out.trans (hbx.mono HB.out.size)); clear hbx) | (go_at_call 13; with_reducible refine (bits_I _ _).mono ?_; rintro e wx ⟨rfl, hbx⟩; replace BA0 := Lib.hid (BA0.out.keep hbx); replace ra0 := BA0.out.row?_all 18 (by simp); replace BA1 := Lib.hid (BA1.out.keep hbx); replace ra1 := BA1.out.row?_all 18 (by simp); replace BA2 := Lib.hid (BA2.out.keep hbx); replace ra2 := BA2.out.row?_all 18 (by simp); replace HB := Lib.hid (HB.out.trans (hbx.mono HB.out.size)); clear hbx))
      go_wp2_with (first | (go_at_call 15; refine (awake1_c _).mono ?_; rintro e wx ⟨rfl, hbx⟩; replace BA0 := Lib.hid (BA0.out.keep hbx); replace ra0 := BA0.out.row?_all 18 (by simp); replace BA1 := Lib.hid (BA1.out.keep hbx); replace ra1 := BA1.out.row?_all 18 (by simp); replace BA2 := Lib.hid (BA2.out.keep hbx); replace ra2 := BA2.out.row?_all 18 (by simp); replace HB := Lib.hid (HB.out.trans (hbx.mono HB.out.size)); clear hbx) | (go_at_call 13; with_reducible refine (bits_I _ _).mono ?_; rintro e wx ⟨rfl, hbx⟩; replace BA0 := Lib.hid (BA0.out.keep hbx); replace ra0 := BA0.out.row?_all 18 (by simp); replace BA1 := Lib.hid (BA1.out.keep hbx); replace ra1 := BA1.out.row?_all 18 (by simp); replace BA2 := Lib.hid (BA2.out.keep hbx); replace ra2 := BA2.out.row?_all 18 (by simp); replace HB := Lib.hid (HB.out.trans (hbx.mono HB.out.size)); clear hbx))
      go_ret
      exact ⟨rfl, HB.out⟩
    · skip
      by_cases b2 : (300 : Int) < (bl z2.sz : Int)
      · (first | (go_at_call 15; refine (awake1_c _).mono ?_; rintro e wx ⟨rfl, hbx⟩; replace BA0 := Lib.hid (BA0.out.keep hbx); replace ra0 := BA0.out.row?_all 18 (by simp); replace BA1 := Lib.hid (BA1.out.keep hbx); replace ra1 := BA1.out.row?_all 18 (by simp); replace BA2 := Lib.hid (BA2.out.keep hbx); replace ra2 := BA2.out.row?_all 18 (by simp); replace HB := Lib.hid (HB.out.trans (hbx.mono HB.out.size)); clear hbx) | (go_at_call 13; with_reducible refine (bits_I _ _).mono ?_; rintro e wx ⟨rfl, hbx⟩; replace BA0 := Lib.hid (BA0.out.keep hbx); replace ra0 := BA0.out.row?_all 18 (by simp); replace BA1 := Lib.hid (BA1.out.keep hbx); replace ra1 := BA1.out.row?_all 18 (by simp); replace BA2 := Lib.hid (BA2.out.keep hbx); replace ra2 := BA2.out.row?_all 18 (by simp); replace HB := Lib.hid (HB.out.trans (hbx.mono HB.out.size)); clear hbx))
        go_wp2_with (first | (go_at_call 15; refine (awake1_c _).mono ?_; rintro e wx ⟨rfl, hbx⟩; replace BA0 := Lib.hid (BA0.out.keep hbx); replace ra0 := BA0.out.row?_all 18 (by simp); replace BA1 := Lib.hid (BA1.out.keep hbx); replace ra1 := BA1.out.row?_all 18 (by simp); replace BA2 := Lib.hid (BA2.out.keep hbx); replace ra2 := BA2.out.row?_all 18 (by simp); replace HB := Lib.hid (HB.out.trans (hbx.mono HB.out.size)); clear hbx) | (go_at_call 13; with_reducible refine (bits_I _ _).mono ?_; rintro e wx ⟨rfl, hbx⟩; replace BA0 := Lib.hid (BA0.out.keep hbx); replace ra0 := BA0.out.row?_all 18 (by simp); replace BA1 := Lib.hid (BA1.out.keep hbx); replace ra1 := BA1.out.row?_all 18 (by simp); replace BA2 := Lib.hid (BA2.out.keep hbx); replace ra2 := BA2.out.row?_all 18 (by simp); replace HB := Lib.hid (HB.out.trans (hbx.mono HB.out.size)); clear hbx))
        go_ret
        exact ⟨rfl, HB.out⟩
      · skip
        cases ho0 : z0.ov with
        | true =>
          have HO0 := Lib.hid ho0
          clear ho0
          (first | (go_at_call 15; refine (awake1_c _).mono ?_; rintro e wx ⟨rfl, hbx⟩; replace BA0 := Lib.hid (BA0.out.keep hbx); replace ra0 := BA0.out.row?_all 18 (by simp); replace BA1 := Lib.hid (BA1.out.keep hbx); replace ra1 := BA1.out.row?_all 18 (by simp); replace BA2 := Lib.hid (BA2.out.keep hbx); replace ra2 := BA2.out.row?_all 18 (by simp); replace HB := Lib.hid (HB.out.trans (hbx.mono HB.out.size)); clear hbx) | (go_at_call 13; with_reducible refine (bits_I _ _).mono ?_; rintro e wx ⟨rfl, hbx⟩; replace BA0 := Lib.hid (BA0.out.keep hbx); replace ra0 := BA0.out.row?_all 18 (by simp); replace BA1 := Lib.hid (BA1.out.keep hbx); replace ra1 := BA1.out.row?_all 18 (by simp); replace BA2 := Lib.hid (BA2.out.keep hbx); replace ra2 := BA2.out.row?_all 18 (by simp); replace HB := Lib.hid (HB.out.trans (hbx.mono HB.out.size)); clear hbx) | (go_at_call 14; with_reducible refine (over_x HO0).mono ?_; rintro e wx ⟨rfl, hbx⟩; replace BA0 := Lib.hid (BA0.out.keep hbx); replace ra0 := BA0.out.row?_all 18 (by simp); replace BA1 := Lib.hid (BA1.out.keep hbx); replace ra1 := BA1.out.row?_all 18 (by simp); replace BA2 := Lib.hid (BA2.out.keep hbx); replace ra2 := BA2.out.row?_all 18 (by simp); replace HB := Lib.hid (HB.out.trans (hbx.mono HB.out.size)); clear hbx))
          go_wp2_with (first | (go_at_call 15; refine (awake1_c _).mono ?_; rintro e wx ⟨rfl, hbx⟩; replace BA0 := Lib.hid (BA0.out.keep hbx); replace ra0 := BA0.out.row?_all 18 (by simp); replace BA1 := Lib.hid (BA1.out.keep hbx); replace ra1 := BA1.out.row?_all 18 (by simp); replace BA2 := Lib.hid (BA2.out.keep hbx); replace ra2 := BA2.out.row?_all 18 (by simp); replace HB := Lib.hid (HB.out.trans (hbx.mono HB.out.size)); clear hbx) | (go_at_call 13; with_reducible refine (bits_I _ _).mono ?_; rintro e wx ⟨rfl, hbx⟩; replace BA0 := Lib.hid (BA0.out.keep hbx); replace ra0 := BA0.out.row?_all 18 (by simp); replace BA1 := Lib.hid (BA1.out.keep hbx); replace ra1 := BA1.out.row?_all 18 (by simp); replace BA2 := Lib.hid (BA2.out.keep hbx); replace ra2 := BA2.out.row?_all 18 (by simp); replace HB := Lib.hid (HB.out.trans (hbx.mono HB.out.size)); clear hbx) | (go_at_call 14; with_reducible refine (over_x HO0).mono ?_; rintro e wx ⟨rfl, hbx⟩; replace BA0 := Lib.hid (BA0.out.keep hbx); replace ra0 := BA0.out.row?_all 18 (by simp); replace BA1 := Lib.hid (BA1.out.keep hbx); replace ra1 := BA1.out.row?_all 18 (by simp); replace BA2 := Lib.hid (BA2.out.keep hbx); replace ra2 := BA2.out.row?_all 18 (by simp); replace HB := Lib.hid (HB.out.trans (hbx.mono HB.out.size)); clear hbx))
          go_ret
          exact ⟨rfl, HB.out⟩
        | false =>
          cases ho1 : z1.ov with
          | true =>
            have HO0 := Lib.hid ho0
            have HO1 := Lib.hid ho1
            clear ho0 ho1
            (first | (go_at_call 15; refine (awake1_c _).mono ?_; rintro e wx ⟨rfl, hbx⟩; replace BA0 := Lib.hid (BA0.out.keep hbx); replace ra0 := BA0.out.row?_all 18 (by simp); replace BA1 := Lib.hid (BA1.out.keep hbx); replace ra1 := BA1.out.row?_all 18 (by simp); replace BA2 := Lib.hid (BA2.out.keep hbx); replace ra2 := BA2.out.row?_all 18 (by simp); replace HB := Lib.hid (HB.out.trans (hbx.mono HB.out.size)); clear hbx) | (go_at_call 13; with_reducible refine (bits_I _ _).mono ?_; rintro e wx ⟨rfl, hbx⟩; replace BA0 := Lib.hid (BA0.out.keep hbx); replace ra0 := BA0.out.row?_all 18 (by simp); replace BA1 := Lib.hid (BA1.out.keep hbx); replace ra1 := BA1.out.row?_all 18 (by simp); replace BA2 := Lib.hid (BA2.out.keep hbx); replace ra2 := BA2.out.row?_all 18 (by simp); replace HB := Lib.hid (HB.out.trans (hbx.mono HB.out.size)); clear hbx) | (go_at_call 14; with_reducible refine (over_x HO0).mono ?_; rintro e wx ⟨rfl, hbx⟩; replace BA0 := Lib.hid (BA0.out.keep hbx); replace ra0 := BA0.out.row?_all 18 (by simp); replace BA1 := Lib.hid (BA1.out.keep hbx); replace ra1 := BA1.out.row?_all 18 (by simp); replace BA2 := Lib.hid (BA2.out.keep hbx); replace ra2 := BA2.out.row?_all 18 (by simp); replace HB := Lib.hid (HB.out.trans (hbx.mono HB.out.size)); clear hbx) | (go_at_call 14; with_reducible refine (over_x HO1).mono ?_; rintro e wx ⟨rfl, hbx⟩; replace BA0 := Lib.hid (BA0.out.keep hbx); replace ra0 := BA0.out.row?_all 18 (by simp); replace BA1 := Lib.hid (BA1.out.keep hbx); replace ra1 := BA1.out.row?_all 18 (by simp); replace BA2 := Lib.hid (BA2.out.keep hbx); replace ra2 := BA2.out.row?_all 18 (by simp); replace HB := Lib.hid (HB.out.trans (hbx.mono HB.out.size)); clear hbx))
            go_wp2_with (first | (go_at_call 15; refine (awake1_c _).mono ?_; rintro e wx ⟨rfl, hbx⟩; replace BA0 := Lib.hid (BA0.out.keep hbx); replace ra0 := BA0.out.row?_all 18 (by simp); replace BA1 := Lib.hid (BA1.out.keep hbx); replace ra1 := BA1.out.row?_all 18 (by simp); replace BA2 := Lib.hid (BA2.out.keep hbx); replace ra2 := BA2.out.row?_all 18 (by simp); replace HB := Lib.hid (HB.out.trans (hbx.mono HB.out.size)); clear hbx) | (go_at_call 13; with_reducible refine (bits_I _ _).mono ?_; rintro e wx ⟨rfl, hbx⟩; replace BA0 := Lib.hid (BA0.out.keep hbx); replace ra0 := BA0.out.row?_all 18 (by simp); replace BA1 := Lib.hid (BA1.out.keep hbx); replace ra1 := BA1.out.row?_all 18 (by simp); replace BA2 := Lib.hid (BA2.out.keep hbx); replace ra2 := BA2.out.row?_all 18 (by simp); replace HB := Lib.hid (HB.out.trans (hbx.mono HB.out.size)); clear hbx) | (go_at_call 14; with_reducible refine (over_x HO0).mono ?_; rintro e wx ⟨rfl, hbx⟩; replace BA0 := Lib.hid (BA0.out.keep hbx); replace ra0 := BA0.out.row?_all 18 (by simp); replace BA1 := Lib.hid (BA1.out.keep hbx); replace ra1 := BA1.out.row?_all 18 (by simp); replace BA2 := Lib.hid (BA2.out.keep hbx); replace ra2 := BA2.out.row?_all 18 (by simp); replace HB := Lib.hid (HB.out.trans (hbx.mono HB.out.size)); clear hbx) | (go_at_call 14; with_reducible refine (over_x HO1).mono ?_; rintro e wx ⟨rfl, hbx⟩; replace BA0 := Lib.hid (BA0.out.keep hbx); replace ra0 := BA0.out.row?_all 18 (by simp); replace BA1 := Lib.hid (BA1.out.keep hbx); replace ra1 := BA1.out.row?_all 18 (by simp); replace BA2 := Lib.hid (BA2.out.keep hbx); replace ra2 := BA2.out.row?_all 18 (by simp); replace HB := Lib.hid (HB.out.trans (hbx.mono HB.out.size)); clear hbx))
            go_ret
            exact ⟨rfl, HB.out⟩
          | false =>
            cases ho2 : z2.ov with
            | true =>
              have HO0 := Lib.hid ho0
              have HO1 := Lib.hid ho1
              have HO2 := Lib.hid ho2
              clear ho0 ho1 ho2
              (first | (go_at_call 15; refine (awake1_c _).mono ?_; rintro e wx ⟨rfl, hbx⟩; replace BA0 := Lib.hid (BA0.out.keep hbx); replace ra0 := BA0.out.row?_all 18 (by simp); replace BA1 := Lib.hid (BA1.out.keep hbx); replace ra1 := BA1.out.row?_all 18 (by simp); replace BA2 := Lib.hid (BA2.out.keep hbx); replace ra2 := BA2.out.row?_all 18 (by simp); replace HB := Lib.hid (HB.out.trans (hbx.mono HB.out.size)); clear hbx) | (go_at_call 13; with_reducible refine (bits_I _ _).mono ?_; rintro e wx ⟨rfl, hbx⟩; replace BA0 := Lib.hid (BA0.out.keep hbx); replace ra0 := BA0.out.row?_all 18 (by simp); replace BA1 := Lib.hid (BA1.out.keep hbx); replace ra1 := BA1.out.row?_all 18 (by simp); replace BA2 := Lib.hid (BA2.out.keep hbx); replace ra2 := BA2.out.row?_all 18 (by simp); replace HB := Lib.hid (HB.out.trans (hbx.mono HB.out.size)); clear hbx) | (go_at_call 14; with_reducible refine (over_x HO0).mono ?_; rintro e wx ⟨rfl, hbx⟩; replace BA0 := Lib.hid (BA0.out.keep hbx); replace ra0 := BA0.out.row?_all 18 (by simp); replace BA1 := Lib.hid (BA1.out.keep hbx); replace ra1 := BA1.out.row?_all 18 (by simp); replace BA2 := Lib.hid (BA2.out.keep hbx); replace ra2 := BA2.out.row?_all 18 (by simp); replace HB := Lib.hid (HB.out.trans (hbx.mono HB.out.size)); clear hbx) | (go_at_call 14; with_reducible refine (over_x HO1).mono ?_; rintro e wx ⟨rfl, hbx⟩; replace BA0 := Lib.hid (BA0.out.keep hbx); replace ra0 := BA0.out.row?_all 18 (by simp); replace BA1 := Lib.hid (BA1.out.keep hbx); replace ra1 := BA1.out.row?_all 18 (by simp); replace BA2 := Lib.hid (BA2.out.keep hbx); replace ra2 := BA2.out.row?_all 18 (by simp); replace HB := Lib.hid (HB.out.trans (hbx.mono HB.out.size)); clear hbx) | (go_at_call 14; with_reducible refine (over_x HO2).mono ?_; rintro e wx ⟨rfl, hbx⟩; replace BA0 := Lib.hid (BA0.out.keep hbx); replace ra0 := BA0.out.row?_all 18 (by simp); replace BA1 := Lib.hid (BA1.out.keep hbx); replace ra1 := BA1.out.row?_all 18 (by simp); replace BA2 := Lib.hid (BA2.out.keep hbx); replace ra2 := BA2.out.row?_all 18 (by simp); replace HB := Lib.hid (HB.out.trans (hbx.mono HB.out.size)); clear hbx))
              go_wp2_with (first | (go_at_call 15; refine (awake1_c _).mono ?_; rintro e wx ⟨rfl, hbx⟩; replace BA0 := Lib.hid (BA0.out.keep hbx); replace ra0 := BA0.out.row?_all 18 (by simp); replace BA1 := Lib.hid (BA1.out.keep hbx); replace ra1 := BA1.out.row?_all 18 (by simp); replace BA2 := Lib.hid (BA2.out.keep hbx); replace ra2 := BA2.out.row?_all 18 (by simp); replace HB := Lib.hid (HB.out.trans (hbx.mono HB.out.size)); clear hbx) | (go_at_call 13; with_reducible refine (bits_I _ _).mono ?_; rintro e wx ⟨rfl, hbx⟩; replace BA0 := Lib.hid (BA0.out.keep hbx); replace ra0 := BA0.out.row?_all 18 (by simp); replace BA1 := Lib.hid (BA1.out.keep hbx); replace ra1 := BA1.out.row?_all 18 (by simp); replace BA2 := Lib.hid (BA2.out.keep hbx); replace ra2 := BA2.out.row?_all 18 (by simp); replace HB := Lib.hid (HB.out.trans (hbx.mono HB.out.size)); clear hbx) | (go_at_call 14; with_reducible refine (over_x HO0).mono ?_; rintro e wx ⟨rfl, hbx⟩; replace BA0 := Lib.hid (BA0.out.keep hbx); replace ra0 := BA0.out.row?_all 18 (by simp); replace BA1 := Lib.hid (BA1.out.keep hbx); replace ra1 := BA1.out.row?_all 18 (by simp); replace BA2 := Lib.hid (BA2.out.keep hbx); replace ra2 := BA2.out.row?_all 18 (by simp); replace HB := Lib.hid (HB.out.trans (hbx.mono HB.out.size)); clear hbx) | (go_at_call 14; with_reducible refine (over_x HO1).mono ?_; rintro e wx ⟨rfl, hbx⟩; replace BA0 := Lib.hid (BA0.out.keep hbx); replace ra0 := BA0.out.row?_all 18 (by simp); replace BA1 := Lib.hid (BA1.out.keep hbx); replace ra1 := BA1.out.row?_all 18 (by simp); replace BA2 := Lib.hid (BA2.out.keep hbx); replace ra2 := BA2.out.row?_all 18 (by simp); replace HB := Lib.hid (HB.out.trans (hbx.mono HB.out.size)); clear hbx) | (go_at_call 14; with_reducible refine (over_x HO2).mono ?_; rintro e wx ⟨rfl, hbx⟩; replace BA0 := Lib.hid (BA0.out.keep hbx); replace ra0 := BA0.out.row?_all 18 (by simp); replace BA1 := Lib.hid (BA1.out.keep hbx); replace ra1 := BA1.out.row?_all 18 (by simp); replace BA2 := Lib.hid (BA2.out.keep hbx); replace ra2 := BA2.out.row?_all 18 (by simp); replace HB := Lib.hid (HB.out.trans (hbx.mono HB.out.size)); clear hbx))
              go_ret
              exact ⟨rfl, HB.out⟩
            | false =>
              have HO0 := Lib.hid ho0
              have HO1 := Lib.hid ho1
              have HO2 := Lib.hid ho2
              obtain ⟨l3, l4, l5, l6, l7⟩ := ring_law z0 z1 z2 ho0 ho1 ho2 (by omega) (by omega) (by omega)
              have E1 := Lib.hid (add_comm' z0 z1)
              have E2 := Lib.hid (mul_comm' z0 z1)
              have E3 := Lib.hid l3
              have E4 := Lib.hid l4
              have E5 := Lib.hid l5
              have E6 := Lib.hid l6
              have E7 := Lib.hid l7
              clear l3 l4 l5 l6 l7 ho0 ho1 ho2
              (first | (go_at_call 13; with_reducible refine (bits_I _ _).mono ?_; rintro e wx ⟨rfl, hbx⟩; replace BA0 := Lib.hid (BA0.out.keep hbx); replace ra0 := BA0.out.row?_all 18 (by simp); replace BA1 := Lib.hid (BA1.out.keep hbx); replace ra1 := BA1.out.row?_all 18 (by simp); replace BA2 := Lib.hid (BA2.out.keep hbx); replace ra2 := BA2.out.row?_all 18 (by simp); replace HB := Lib.hid (HB.out.trans (hbx.mono HB.out.size)); clear hbx) | (go_at_call 14; with_reducible refine (over_x HO0).mono ?_; rintro e wx ⟨rfl, hbx⟩; replace BA0 := Lib.hid (BA0.out.keep hbx); replace ra0 := BA0.out.row?_all 18 (by simp); replace BA1 := Lib.hid (BA1.out.keep hbx); replace ra1 := BA1.out.row?_all 18 (by simp); replace BA2 := Lib.hid (BA2.out.keep hbx); replace ra2 := BA2.out.row?_all 18 (by simp); replace HB := Lib.hid (HB.out.trans (hbx.mono HB.out.size)); clear hbx) | (go_at_call 14; with_reducible refine (over_x HO1).mono ?_; rintro e wx ⟨rfl, hbx⟩; replace BA0 := Lib.hid (BA0.out.keep hbx); replace ra0 := BA0.out.row?_all 18 (by simp); replace BA1 := Lib.hid (BA1.out.keep hbx); replace ra1 := BA1.out.row?_all 18 (by simp); replace BA2 := Lib.hid (BA2.out.keep hbx); replace ra2 := BA2.out.row?_all 18 (by simp); replace HB := Lib.hid (HB.out.trans (hbx.mono HB.out.size)); clear hbx) | (go_at_call 14; with_reducible refine (over_x HO2).mono ?_; rintro e wx ⟨rfl, hbx⟩; replace BA0 := Lib.hid (BA0.out.keep hbx); replace ra0 := BA0.out.row?_all 18 (by simp); replace BA1 := Lib.hid (BA1.out.keep hbx); replace ra1 := BA1.out.row?_all 18 (by simp); replace BA2 := Lib.hid (BA2.out.keep hbx); replace ra2 := BA2.out.row?_all 18 (by simp); replace HB := Lib.hid (HB.out.trans (hbx.mono HB.out.size)); clear hbx))
              go_wp2_with (first | (go_at_call 13; with_reducible refine (bits_I _ _).mono ?_; rintro e wx ⟨rfl, hbx⟩; replace BA0 := Lib.hid (BA0.out.keep hbx); replace ra0 := BA0.out.row?_all 18 (by simp); replace BA1 := Lib.hid (BA1.out.keep hbx); replace ra1 := BA1.out.row?_all 18 (by simp); replace BA2 := Lib.hid (BA2.out.keep hbx); replace ra2 := BA2.out.row?_all 18 (by simp); replace HB := Lib.hid (HB.out.trans (hbx.mono HB.out.size)); clear hbx) | (go_at_call 14; with_reducible refine (over_x HO0).mono ?_; rintro e wx ⟨rfl, hbx⟩; replace BA0 := Lib.hid (BA0.out.keep hbx); replace ra0 := BA0.out.row?_all 18 (by simp); replace BA1 := Lib.hid (BA1.out.keep hbx); replace ra1 := BA1.out.row?_all 18 (by simp); replace BA2 := Lib.hid (BA2.out.keep hbx); replace ra2 := BA2.out.row?_all 18 (by simp); replace HB := Lib.hid (HB.out.trans (hbx.mono HB.out.size)); clear hbx) | (go_at_call 14; with_reducible refine (over_x HO1).mono ?_; rintro e wx ⟨rfl, hbx⟩; replace BA0 := Lib.hid (BA0.out.keep hbx); replace ra0 := BA0.out.row?_all 18 (by simp); replace BA1 := Lib.hid (BA1.out.keep hbx); replace ra1 := BA1.out.row?_all 18 (by simp); replace BA2 := Lib.hid (BA2.out.keep hbx); replace ra2 := BA2.out.row?_all 18 (by simp); replace HB := Lib.hid (HB.out.trans (hbx.mono HB.out.size)); clear hbx) | (go_at_call 14; with_reducible refine (over_x HO2).mono ?_; rintro e wx ⟨rfl, hbx⟩; replace BA0 := Lib.hid (BA0.out.keep hbx); replace ra0 := BA0.out.row?_all 18 (by simp); replace BA1 := Lib.hid (BA1.out.keep hbx); replace ra1 := BA1.out.row?_all 18 (by simp); replace BA2 := Lib.hid (BA2.out.keep hbx); replace ra2 := BA2.out.row?_all 18 (by simp); replace HB := Lib.hid (HB.out.trans (hbx.mono HB.out.size)); clear hbx))
              clear ra0 ra1 ra2
              have ra0 := @inh_row _ _ _ _ _ (BA0.out.row?_all 18 (by simp)); have ra1 := @inh_row _ _ _ _ _ (BA1.out.row?_all 18 (by simp)); have ra2 := @inh_row _ _ _ _ _ (BA2.out.row?_all 18 (by simp))
              refine wp_region_ghost' 84 (fun _ => none) (fun _ => []) (by kernel_rfl) (by kernel_rfl) ?_; refine ex_listH ?_; apply Exists.intro; refine ex_listH ?_; apply Exists.intro; refine ex_listH ?_; apply Exists.intro; refine ex_listH ?_; apply Exists.intro; refine ex_listH ?_; apply Exists.intro; refine ex_listH ?_; apply Exists.intro; refine ex_listH ?_; apply Exists.intro; refine ex_listH ?_; apply Exists.intro; refine ex_listH ?_; apply Exists.intro; refine ex_listH ?_; apply Exists.intro; refine ex_listH ?_; apply Exists.intro; refine ex_listH ?_; apply Exists.intro; refine ex_listH ?_; apply Exists.intro; refine ex_listH ?_; apply Exists.intro; refine ex_listH ?_; apply Exists.intro; refine ex_listH ?_; apply Exists.intro; refine ex_listH ?_; apply Exists.intro; refine ex_listH ?_; apply Exists.intro; refine ex_listH ?_; apply Exists.intro; refine ex_listH ?_; apply Exists.intro; refine ex_listH ?_; apply Exists.intro; refine ex_listH ?_; apply Exists.intro; refine ex_listH ?_; apply Exists.intro; refine ex_listH ?_; apply Exists.intro; refine ex_listH ?_; apply Exists.intro; refine ex_listH ?_; apply Exists.intro; refine ex_listH ?_; apply Exists.intro; refine ex_listH ?_; apply Exists.intro; refine ex_listH ?_; apply Exists.intro; refine ex_listH ?_; apply Exists.intro; refine ex_listH ?_; apply Exists.intro; refine ex_listH ?_; apply Exists.intro; refine ex_listH ?_; apply Exists.intro; refine ex_listH ?_; apply Exists.intro; refine ex_listH ?_; apply Exists.intro; refine ex_listH ?_; apply Exists.intro; refine ex_listH ?_; apply Exists.intro; refine ex_listH ?_; apply Exists.intro; refine ex_listH ?_; apply Exists.intro; refine ex_listH ?_; apply Exists.intro; refine ex_listH ?_; apply Exists.intro; refine ex_listH ?_; apply Exists.intro; refine ex_listH ?_; apply Exists.intro; refine ex_listH ?_; apply Exists.intro; refine ex_listH ?_; apply Exists.intro; refine ex_listH ?_; apply Exists.intro; refine ex_listH ?_; apply Exists.intro; refine ex_listH ?_; apply Exists.intro; refine ex_listH ?_; apply Exists.intro; refine ex_listH ?_; apply Exists.intro; refine ex_listH ?_; apply Exists.intro; refine ex_listH ?_; apply Exists.intro; refine ex_listH ?_; apply Exists.intro; refine ex_listH ?_; apply Exists.intro; refine ex_listH ?_; apply Exists.intro; refine ex_listH ?_; apply Exists.intro; refine ex_listH ?_; apply Exists.intro; refine ex_listH ?_; apply Exists.intro; refine ex_listH ?_; apply Exists.intro; refine ex_listH ?_; apply Exists.intro; refine ex_listH ?_; apply Exists.intro; refine ex_listH ?_; apply Exists.intro; refine ex_listH ?_; apply Exists.intro; refine ex_listH ?_; apply Exists.intro; refine ex_listH ?_; apply Exists.intro; refine ex_listH ?_; apply Exists.intro; refine ex_listH ?_; apply Exists.intro; refine ex_listH ?_; apply Exists.intro; refine ex_listH ?_; apply Exists.intro; refine ex_listH ?_; apply Exists.intro; refine ex_listH ?_; apply Exists.intro; refine ex_listH ?_; apply Exists.intro; refine ex_listH ?_; apply Exists.intro; refine ex_listH ?_; apply Exists.intro; refine ex_listH ?_; apply Exists.intro; refine ex_listH ?_; apply Exists.intro; refine ex_listH ?_; apply Exists.intro; refine ex_listH ?_; apply Exists.intro; refine ex_listH ?_; apply Exists.intro; refine ex_listH ?_; apply Exists.intro; refine ex_listH ?_; apply Exists.intro; refine ex_listH ?_; apply Exists.intro; refine ex_listH ?_; apply Exists.intro; refine ex_listH ?_; apply Exists.intro; refine ⟨[], fun gg NN hN => ?_⟩; simp only [List.append_eq, List.cons_append, List.nil_append, List.take_succ_cons, List.take_zero, List.drop_succ_cons, List.drop_zero]; (repeat (first | (refine lexH_quiet rfl ?_; go_big_quiet_step (first | exact rfl | (first | (go_at_call 15; with_reducible exact calls_inh (awake1_c _)) | (go_at_call 18; with_reducible exact calls_inh (add_I _ _ _)) | (go_at_call 19; with_reducible exact calls_inh (mul_I _ _ _)) | (go_at_call 20; with_reducible exact calls_inh (sub_I _ _ _)) | (go_at_call 21; with_reducible exact calls_inh (shift_I _ _ _ (by decide))) | (go_at_call 16; with_reducible exact calls_inh (eq_e E1)) | (go_at_call 16; with_reducible exact calls_inh (eq_e E2)) | (go_at_call 16; with_reducible exact calls_inh (eq_e E3)) | (go_at_call 16; with_reducible exact calls_inh (eq_e E4)) | (go_at_call 16; with_reducible exact calls_inh (eq_e E5)) | (go_at_call 16; with_reducible exact calls_inh (eq_e E6)) | (go_at_call 16; with_reducible exact calls_inh (eq_e E7)))); refine wpQuiet_nil ⟨?hd, ?_⟩; (case hd => (simp only [dstVh, Array.getD_eq_getD_getElem?, List.getElem?_toArray, List.getElem?_cons_zero, List.getElem?_cons_succ, Option.getD_some, List.getD_cons_zero, List.getD_cons_succ]; exact rfl))) | (refine lexH_ghost _ (by rfl) (by rfl) ?hex ?_; (case hex => (intro px; fail)); simp only [Act.put, List.setIfInBounds_toArray, List.set_cons_succ, List.set_cons_zero])))
              refine lexH_nil ?_
              intro uz hbn hh
              refine wpList_nil ?_
              go_wp2_with fail
              go_ret
              exact ⟨rfl, HB.out.trans (Below.mono hbn HB.out.size)⟩
end Go.Proofs.Ytkepdjmgmjhejaa
