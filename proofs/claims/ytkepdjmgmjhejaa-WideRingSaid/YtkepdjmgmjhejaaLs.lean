/- The walk of WideShifts. -/
import Derived.Test.YtkepdjmgmjhejaaLA
namespace Go.Proofs.Ytkepdjmgmjhejaa
set_option linter.unusedSimpArgs false
open Go.RowKit

theorem cmp_x {x y : WI} {a : Int} {b : Bool} (h : Hid (x.cmp y = (a, b))) {w : World} : Calls Try.prog 22 #[.agg x.cells, .agg y.cells] w fun e w' => e = .returned (.tuple #[.int .i64 a, .bool b]) ∧ Below w.heap.size w w' := by
  have := cmp_I x y w
  rwa [h.out] at this
theorem sign_x {x : WI} {a : Int} (h : Hid (x.sign = a)) {w : World} : Calls Try.prog 23 #[.agg x.cells] w fun e w' => e = .returned (.int .i64 a) ∧ Below w.heap.size w w' := by
  have := sign_I x w
  rwa [h.out] at this
theorem bits_x {x : WI} {a : Nat} (h : Hid (bl x.sz = a)) {w : World} : Calls Try.prog 13 #[.agg x.cells] w fun e w' => e = .returned (.int .i64 a) ∧ Below w.heap.size w w' := by
  have := bits_I x w
  rwa [h.out] at this
set_option maxRecDepth 100000 in
set_option maxHeartbeats 4000000 in
theorem wideShifts_c (v0 : Value) (z0 : WI) (k : Int) (w : World) (h0 : NumIs w v0 z0) :
    Calls Try.prog 6 #[v0, .int .i64 k] w fun e w' => e = .returned (.bool true) ∧ Below w.heap.size w w' := by
  have h0' := h0
  obtain ⟨A0, len0, cap0, T0, K0, rfl, -, -, -, -⟩ := h0'
  have HN0 := Lib.hid h0
  clear h0
  obtain ⟨j, hj⟩ : ∃ j : Nat, (IntKind.u64.wrap k).tmod 300 = (j : Int) ∧ j < 300 := ⟨((IntKind.u64.wrap k).tmod 300).toNat, by
    have h0 : 0 ≤ IntKind.u64.wrap k := by rw [IntKind.wrap_u64]; omega
    rw [Int.tmod_eq_emod_of_nonneg h0]; omega⟩
  have hj1 := hj.1
  have hj2 := hj.2
  have HJ : Hid (j < 300 ∧ -9223372036854775808 ≤ -(j : Int)) := ⟨hj.2, by omega⟩
  have hwj : wrap64 (j : Int) = (j : Int) := by unfold wrap64; omega
  clear hj
  go_enter Try.func6, Try.ntmps6
  go_wp2_with fail
  have HU0 : Hid (Below w.heap.size w ((w).alloc (Obj.cells #[.slice A0 len0 cap0, .int .i64 K0] 24))) := (by repeat (first | exact Below.refl _ _ | exact Below_of_hid (by assumption) | refine Below.drew ?_ | refine below_drewN ?_ _ | refine Below_putRow ?_ (by first | omega | (simp; done) | (simp; omega) | fail) _ _ | refine Below.alloc ?_ (by first | omega | (simp; done) | (simp; omega) | fail) _ | refine Below.setCell ?_ (by first | omega | (simp; done) | (simp; omega) | fail) _ | refine Below.trans ?_ (Below.mono (by assumption) (by first | omega | (simp; done) | (simp; omega) | fail))))
  have X0_0 : Hid (Blk ((w).alloc (Obj.cells #[.slice A0 len0 cap0, .int .i64 K0] 24)) (w.heap.size) #[.slice A0 len0 cap0, .int .i64 K0] 24) := Blk.new' _ _ _ (by simp)
  refine (lawOf_r _ z0 _ (HN0.out.below HU0.out)).mono ?_
  rintro e w0 ⟨⟨bv0, rfl, hbv0⟩, hb0⟩
  obtain ⟨B0, c0, rfl, hR0⟩ := hbv0.opened
  have HR0 := Lib.hid hR0
  have HV0 : Hid (Below w.heap.size w w0) := HU0.out.trans (hb0.mono HU0.out.size)
  have Y0_0 := Lib.hid (X0_0.out.keep hb0)
  have sz0 := HV0.out.size
  clear hbv0 hR0 hb0 HU0 X0_0
  go_wp2_with fail
  obtain ⟨u1, hu1⟩ : ∃ u1, u1 = (w0.alloc (Obj.cells z0.cells 29)).alloc (Obj.cells #[.bool z0.ng, .bool z0.ov, .slice B0 (dg z0.sz).length c0] 32) := ⟨_, rfl⟩
  rw [← hu1]
  obtain ⟨g0, hg0⟩ : ∃ g0, g0 = w0.heap.size := ⟨_, rfl⟩
  have gw0 : w.heap.size ≤ g0 := by rw [hg0]; exact sz0
  have HU1 : Hid (Below w.heap.size w u1) := by rw [hu1]; exact (HV0.out.alloc HV0.out.size _).alloc (by simp; omega) _
  have X0_1 : Hid (Blk u1 (w.heap.size) #[.slice A0 len0 cap0, .int .i64 K0] 24) := by rw [hu1]; exact (Y0_0.out.alloc _).alloc _
  have BA0_1 : Hid (Blk u1 g0 z0.cells 29) := by rw [hu1, hg0]; exact (Blk.new _ _ _).alloc _
  have BB0_1 : Hid (BigAt u1 (g0 + 1) z0) := by rw [hu1, hg0]; exact ⟨B0, c0, Blk.new' _ _ _ (by simp), HR0.out.below (((Below.refl _ _).alloc (Nat.le_refl _) _).alloc (by simp) _)⟩
  rw [← hg0]
  clear hu1 hg0 HR0 HV0 sz0 Y0_0
  have BA0 := BA0_1
  have BB0 := BB0_1
  have ra0 := BA0.out.row?_all 18 (by simp)
  have HB := HU1
  clear HU1 X0_1 BA0_1 BB0_1
  have LW := Lib.hid (shifts_law z0 j)
  cases ho : z0.ov with
  | true =>
    (first | (go_at_call 14; refine (over_I _ _).mono ?_; rintro e wx ⟨rfl, hbx⟩; replace BA0 := Lib.hid (BA0.out.keep hbx); replace ra0 := BA0.out.row?_all 18 (by simp); replace HB := Lib.hid (HB.out.trans (hbx.mono HB.out.size)); clear hbx) | (go_at_call 13; refine (bits_I _ _).mono ?_; rintro e wx ⟨rfl, hbx⟩; replace BA0 := Lib.hid (BA0.out.keep hbx); replace ra0 := BA0.out.row?_all 18 (by simp); replace HB := Lib.hid (HB.out.trans (hbx.mono HB.out.size)); clear hbx) | (go_at_call 23; refine (sign_I _ _).mono ?_; rintro e wx ⟨rfl, hbx⟩; replace BA0 := Lib.hid (BA0.out.keep hbx); replace ra0 := BA0.out.row?_all 18 (by simp); replace HB := Lib.hid (HB.out.trans (hbx.mono HB.out.size)); clear hbx) | (go_at_call 18; refine (add_I _ _ _).mono ?_; rintro e wx ⟨rfl, hbx⟩; replace BA0 := Lib.hid (BA0.out.keep hbx); replace ra0 := BA0.out.row?_all 18 (by simp); replace HB := Lib.hid (HB.out.trans (hbx.mono HB.out.size)); clear hbx) | (go_at_call 22; refine (cmp_I _ _ _).mono ?_; rintro e wx ⟨rfl, hbx⟩; replace BA0 := Lib.hid (BA0.out.keep hbx); replace ra0 := BA0.out.row?_all 18 (by simp); replace HB := Lib.hid (HB.out.trans (hbx.mono HB.out.size)); clear hbx) | (go_at_call 15; refine (awake1_c _).mono ?_; rintro e wx ⟨rfl, hbx⟩; replace BA0 := Lib.hid (BA0.out.keep hbx); replace ra0 := BA0.out.row?_all 18 (by simp); replace HB := Lib.hid (HB.out.trans (hbx.mono HB.out.size)); clear hbx) | (go_at_call 21; with_reducible refine (shift_I _ _ _ (by first | decide | exact HJ.out.2 | (have := HJ.out.1; omega))).mono ?_; rintro e wx ⟨rfl, hbx⟩; replace BA0 := Lib.hid (BA0.out.keep hbx); replace ra0 := BA0.out.row?_all 18 (by simp); replace HB := Lib.hid (HB.out.trans (hbx.mono HB.out.size)); clear hbx))
    rw [ho]
    go_wp2_with (first | (go_at_call 14; refine (over_I _ _).mono ?_; rintro e wx ⟨rfl, hbx⟩; replace BA0 := Lib.hid (BA0.out.keep hbx); replace ra0 := BA0.out.row?_all 18 (by simp); replace HB := Lib.hid (HB.out.trans (hbx.mono HB.out.size)); clear hbx) | (go_at_call 13; refine (bits_I _ _).mono ?_; rintro e wx ⟨rfl, hbx⟩; replace BA0 := Lib.hid (BA0.out.keep hbx); replace ra0 := BA0.out.row?_all 18 (by simp); replace HB := Lib.hid (HB.out.trans (hbx.mono HB.out.size)); clear hbx) | (go_at_call 23; refine (sign_I _ _).mono ?_; rintro e wx ⟨rfl, hbx⟩; replace BA0 := Lib.hid (BA0.out.keep hbx); replace ra0 := BA0.out.row?_all 18 (by simp); replace HB := Lib.hid (HB.out.trans (hbx.mono HB.out.size)); clear hbx) | (go_at_call 18; refine (add_I _ _ _).mono ?_; rintro e wx ⟨rfl, hbx⟩; replace BA0 := Lib.hid (BA0.out.keep hbx); replace ra0 := BA0.out.row?_all 18 (by simp); replace HB := Lib.hid (HB.out.trans (hbx.mono HB.out.size)); clear hbx) | (go_at_call 22; refine (cmp_I _ _ _).mono ?_; rintro e wx ⟨rfl, hbx⟩; replace BA0 := Lib.hid (BA0.out.keep hbx); replace ra0 := BA0.out.row?_all 18 (by simp); replace HB := Lib.hid (HB.out.trans (hbx.mono HB.out.size)); clear hbx) | (go_at_call 15; refine (awake1_c _).mono ?_; rintro e wx ⟨rfl, hbx⟩; replace BA0 := Lib.hid (BA0.out.keep hbx); replace ra0 := BA0.out.row?_all 18 (by simp); replace HB := Lib.hid (HB.out.trans (hbx.mono HB.out.size)); clear hbx) | (go_at_call 21; with_reducible refine (shift_I _ _ _ (by first | decide | exact HJ.out.2 | (have := HJ.out.1; omega))).mono ?_; rintro e wx ⟨rfl, hbx⟩; replace BA0 := Lib.hid (BA0.out.keep hbx); replace ra0 := BA0.out.row?_all 18 (by simp); replace HB := Lib.hid (HB.out.trans (hbx.mono HB.out.size)); clear hbx))
    go_ret
    exact ⟨rfl, HB.out⟩
  | false =>
    by_cases hbl : bl z0.sz ≤ 400
    · obtain ⟨l1, l2, l3⟩ := LW.out ho hbl hj2
      have b1 : ¬ (400 : Int) < (bl z0.sz : Int) := by omega
      have L1 := Lib.hid l1
      have L2 := Lib.hid l2
      have L3 := Lib.hid l3
      clear l1 l2 l3 LW hbl
      (first | (go_at_call 14; refine (over_I _ _).mono ?_; rintro e wx ⟨rfl, hbx⟩; replace BA0 := Lib.hid (BA0.out.keep hbx); replace ra0 := BA0.out.row?_all 18 (by simp); replace HB := Lib.hid (HB.out.trans (hbx.mono HB.out.size)); clear hbx) | (go_at_call 13; refine (bits_I _ _).mono ?_; rintro e wx ⟨rfl, hbx⟩; replace BA0 := Lib.hid (BA0.out.keep hbx); replace ra0 := BA0.out.row?_all 18 (by simp); replace HB := Lib.hid (HB.out.trans (hbx.mono HB.out.size)); clear hbx) | (go_at_call 23; refine (sign_I _ _).mono ?_; rintro e wx ⟨rfl, hbx⟩; replace BA0 := Lib.hid (BA0.out.keep hbx); replace ra0 := BA0.out.row?_all 18 (by simp); replace HB := Lib.hid (HB.out.trans (hbx.mono HB.out.size)); clear hbx) | (go_at_call 18; refine (add_I _ _ _).mono ?_; rintro e wx ⟨rfl, hbx⟩; replace BA0 := Lib.hid (BA0.out.keep hbx); replace ra0 := BA0.out.row?_all 18 (by simp); replace HB := Lib.hid (HB.out.trans (hbx.mono HB.out.size)); clear hbx) | (go_at_call 22; refine (cmp_I _ _ _).mono ?_; rintro e wx ⟨rfl, hbx⟩; replace BA0 := Lib.hid (BA0.out.keep hbx); replace ra0 := BA0.out.row?_all 18 (by simp); replace HB := Lib.hid (HB.out.trans (hbx.mono HB.out.size)); clear hbx) | (go_at_call 15; refine (awake1_c _).mono ?_; rintro e wx ⟨rfl, hbx⟩; replace BA0 := Lib.hid (BA0.out.keep hbx); replace ra0 := BA0.out.row?_all 18 (by simp); replace HB := Lib.hid (HB.out.trans (hbx.mono HB.out.size)); clear hbx) | (go_at_call 21; with_reducible refine (shift_I _ _ _ (by first | decide | exact HJ.out.2 | (have := HJ.out.1; omega))).mono ?_; rintro e wx ⟨rfl, hbx⟩; replace BA0 := Lib.hid (BA0.out.keep hbx); replace ra0 := BA0.out.row?_all 18 (by simp); replace HB := Lib.hid (HB.out.trans (hbx.mono HB.out.size)); clear hbx))
      rw [ho]
      go_wp2_with (first | (go_at_call 14; refine (over_I _ _).mono ?_; rintro e wx ⟨rfl, hbx⟩; replace BA0 := Lib.hid (BA0.out.keep hbx); replace ra0 := BA0.out.row?_all 18 (by simp); replace HB := Lib.hid (HB.out.trans (hbx.mono HB.out.size)); clear hbx) | (go_at_call 13; refine (bits_I _ _).mono ?_; rintro e wx ⟨rfl, hbx⟩; replace BA0 := Lib.hid (BA0.out.keep hbx); replace ra0 := BA0.out.row?_all 18 (by simp); replace HB := Lib.hid (HB.out.trans (hbx.mono HB.out.size)); clear hbx) | (go_at_call 23; refine (sign_I _ _).mono ?_; rintro e wx ⟨rfl, hbx⟩; replace BA0 := Lib.hid (BA0.out.keep hbx); replace ra0 := BA0.out.row?_all 18 (by simp); replace HB := Lib.hid (HB.out.trans (hbx.mono HB.out.size)); clear hbx) | (go_at_call 18; refine (add_I _ _ _).mono ?_; rintro e wx ⟨rfl, hbx⟩; replace BA0 := Lib.hid (BA0.out.keep hbx); replace ra0 := BA0.out.row?_all 18 (by simp); replace HB := Lib.hid (HB.out.trans (hbx.mono HB.out.size)); clear hbx) | (go_at_call 22; refine (cmp_I _ _ _).mono ?_; rintro e wx ⟨rfl, hbx⟩; replace BA0 := Lib.hid (BA0.out.keep hbx); replace ra0 := BA0.out.row?_all 18 (by simp); replace HB := Lib.hid (HB.out.trans (hbx.mono HB.out.size)); clear hbx) | (go_at_call 15; refine (awake1_c _).mono ?_; rintro e wx ⟨rfl, hbx⟩; replace BA0 := Lib.hid (BA0.out.keep hbx); replace ra0 := BA0.out.row?_all 18 (by simp); replace HB := Lib.hid (HB.out.trans (hbx.mono HB.out.size)); clear hbx) | (go_at_call 21; with_reducible refine (shift_I _ _ _ (by first | decide | exact HJ.out.2 | (have := HJ.out.1; omega))).mono ?_; rintro e wx ⟨rfl, hbx⟩; replace BA0 := Lib.hid (BA0.out.keep hbx); replace ra0 := BA0.out.row?_all 18 (by simp); replace HB := Lib.hid (HB.out.trans (hbx.mono HB.out.size)); clear hbx))
      obtain ⟨u2, hu2⟩ : ∃ u2, u2 = wx.alloc (Obj.cells (z0.shl j).cells 29) := ⟨_, rfl⟩
      rw [← hu2]
      obtain ⟨g1, hg1⟩ : ∃ g1, g1 = wx.heap.size := ⟨_, rfl⟩
      have gw1 : w.heap.size ≤ g1 := by rw [hg1]; exact HB.out.size
      replace HB : Hid (Below w.heap.size w u2) := by rw [hu2]; exact HB.out.alloc HB.out.size _
      replace BA0 : Hid (Blk u2 g0 z0.cells 29) := by rw [hu2]; exact BA0.out.alloc _
      have BA1 : Hid (Blk u2 g1 (z0.shl j).cells 29) := by rw [hu2, hg1]; exact Blk.new _ _ _
      rw [← hg1]
      clear ra0 hu2 hg1
      have ra1 := @inh_row _ _ _ _ _ (BA1.out.row?_all 18 (by simp))
      refine wp_region_ghost' 11 (fun _ => none) (fun _ => []) (by kernel_rfl) (by kernel_rfl) ?_; refine ex_listH ?_; apply Exists.intro; refine ex_listH ?_; apply Exists.intro; refine ex_listH ?_; apply Exists.intro; refine ex_listH ?_; apply Exists.intro; refine ex_listH ?_; apply Exists.intro; refine ex_listH ?_; apply Exists.intro; refine ex_listH ?_; apply Exists.intro; refine ex_listH ?_; apply Exists.intro; refine ex_listH ?_; apply Exists.intro; refine ex_listH ?_; apply Exists.intro; refine ex_listH ?_; apply Exists.intro; refine ⟨[], fun gg NN hN => ?_⟩; simp only [List.append_eq, List.cons_append, List.nil_append, List.take_succ_cons, List.take_zero, List.drop_succ_cons, List.drop_zero]; (repeat (first | (refine lexH_quiet rfl ?_; go_big_quiet_step (first | exact rfl | (first | (go_at_call 18; with_reducible exact calls_inh (add_I _ _ _)) | (go_at_call 21; with_reducible exact calls_inh (shift_I _ _ _ (by first | decide | exact HJ.out.2 | (have := HJ.out.1; omega)))) | (go_at_call 22; with_reducible exact calls_inh (cmp_x L1)))); refine wpQuiet_nil ⟨?hd, ?_⟩; (case hd => (simp only [dstVh, Array.getD_eq_getD_getElem?, List.getElem?_toArray, List.getElem?_cons_zero, List.getElem?_cons_succ, Option.getD_some, List.getD_cons_zero, List.getD_cons_succ]; exact rfl))) | (refine lexH_ghost _ (by rfl) (by rfl) ?hex ?_; (case hex => (intro px; fail)); simp only [Act.put, List.setIfInBounds_toArray, List.set_cons_succ, List.set_cons_zero])))
      refine lexH_nil ?_
      intro u3 hb3' hh
      have hb3 : Below u2.heap.size u2 u3 := hb3'
      clear hh hb3' ra1
      replace BA0 := Lib.hid (BA0.out.keep hb3)
      replace BA1 := Lib.hid (BA1.out.keep hb3)
      replace HB := Lib.hid (HB.out.trans (hb3.mono HB.out.size))
      clear hb3
      refine wpList_nil ?_
      go_wp2_with fail
      have ra0 := @inh_row _ _ _ _ _ (BA0.out.row?_all 18 (by simp))
      have ra1 := @inh_row _ _ _ _ _ (BA1.out.row?_all 18 (by simp))
      refine wp_region_ghost' 11 (fun _ => none) (fun _ => []) (by kernel_rfl) (by kernel_rfl) ?_; refine ex_listH ?_; apply Exists.intro; refine ex_listH ?_; apply Exists.intro; refine ex_listH ?_; apply Exists.intro; refine ex_listH ?_; apply Exists.intro; refine ex_listH ?_; apply Exists.intro; refine ex_listH ?_; apply Exists.intro; refine ex_listH ?_; apply Exists.intro; refine ex_listH ?_; apply Exists.intro; refine ex_listH ?_; apply Exists.intro; refine ex_listH ?_; apply Exists.intro; refine ex_listH ?_; apply Exists.intro; refine ⟨[], fun gg NN hN => ?_⟩; simp only [List.append_eq, List.cons_append, List.nil_append, List.take_succ_cons, List.take_zero, List.drop_succ_cons, List.drop_zero]; (repeat (first | (refine lexH_quiet rfl ?_; go_big_quiet_step (first | exact rfl | (first | (go_at_call 21; with_reducible exact calls_inh (shift_I _ _ _ (by first | decide | exact HJ.out.2 | (have := HJ.out.1; omega)))) | (go_at_call 22; with_reducible exact calls_inh (cmp_x L2)))); refine wpQuiet_nil ⟨?hd, ?_⟩; (case hd => (simp only [dstVh, Array.getD_eq_getD_getElem?, List.getElem?_toArray, List.getElem?_cons_zero, List.getElem?_cons_succ, Option.getD_some, List.getD_cons_zero, List.getD_cons_succ]; exact rfl))) | (refine lexH_ghost _ (by rfl) (by rfl) ?hex ?_; (case hex => (intro px; fail)); simp only [Act.put, List.setIfInBounds_toArray, List.set_cons_succ, List.set_cons_zero])))
      refine lexH_nil ?_
      intro u4 hb4' hh
      have hb4 : Below u3.heap.size u3 u4 := hb4'
      clear hh hb4' ra0 ra1
      replace BA0 := Lib.hid (BA0.out.keep hb4)
      replace BA1 := Lib.hid (BA1.out.keep hb4)
      replace HB := Lib.hid (HB.out.trans (hb4.mono HB.out.size))
      have ra0 := BA0.out.row?_all 18 (by simp)
      have ra1 := BA1.out.row?_all 18 (by simp)
      clear hb4
      refine wpList_nil ?_
      have hbw : wrap64 ((bl z0.sz : Int) + j) = ((bl z0.sz + j : Nat) : Int) := by unfold wrap64; omega
      obtain ⟨s, hs⟩ : ∃ s, z0.sign = s := ⟨_, rfl⟩
      rw [hs] at L3
      by_cases hs0 : s = 0
      · have l3 := L3.out
        rw [if_pos hs0] at l3
        have HBL := Lib.hid l3
        subst hs0
        have HS := Lib.hid hs
        clear hs l3
        go_wp2_with (first | (go_at_call 18; refine (add_I _ _ _).mono ?_; rintro e wx ⟨rfl, hbx⟩; replace BA0 := Lib.hid (BA0.out.keep hbx); replace ra0 := BA0.out.row?_all 18 (by simp); replace BA1 := Lib.hid (BA1.out.keep hbx); replace ra1 := BA1.out.row?_all 18 (by simp); replace HB := Lib.hid (HB.out.trans (hbx.mono HB.out.size)); clear hbx) | (go_at_call 22; refine (cmp_I _ _ _).mono ?_; rintro e wx ⟨rfl, hbx⟩; replace BA0 := Lib.hid (BA0.out.keep hbx); replace ra0 := BA0.out.row?_all 18 (by simp); replace BA1 := Lib.hid (BA1.out.keep hbx); replace ra1 := BA1.out.row?_all 18 (by simp); replace HB := Lib.hid (HB.out.trans (hbx.mono HB.out.size)); clear hbx) | (go_at_call 15; refine (awake1_c _).mono ?_; rintro e wx ⟨rfl, hbx⟩; replace BA0 := Lib.hid (BA0.out.keep hbx); replace ra0 := BA0.out.row?_all 18 (by simp); replace BA1 := Lib.hid (BA1.out.keep hbx); replace ra1 := BA1.out.row?_all 18 (by simp); replace HB := Lib.hid (HB.out.trans (hbx.mono HB.out.size)); clear hbx) | (go_at_call 21; with_reducible refine (shift_I _ _ _ (by first | decide | exact HJ.out.2 | (have := HJ.out.1; omega))).mono ?_; rintro e wx ⟨rfl, hbx⟩; replace BA0 := Lib.hid (BA0.out.keep hbx); replace ra0 := BA0.out.row?_all 18 (by simp); replace BA1 := Lib.hid (BA1.out.keep hbx); replace ra1 := BA1.out.row?_all 18 (by simp); replace HB := Lib.hid (HB.out.trans (hbx.mono HB.out.size)); clear hbx) | (go_at_call 23; with_reducible refine (sign_x HS).mono ?_; rintro e wx ⟨rfl, hbx⟩; replace BA0 := Lib.hid (BA0.out.keep hbx); replace ra0 := BA0.out.row?_all 18 (by simp); replace BA1 := Lib.hid (BA1.out.keep hbx); replace ra1 := BA1.out.row?_all 18 (by simp); replace HB := Lib.hid (HB.out.trans (hbx.mono HB.out.size)); clear hbx) | (go_at_call 13; with_reducible refine (bits_x HBL).mono ?_; rintro e wx ⟨rfl, hbx⟩; replace BA0 := Lib.hid (BA0.out.keep hbx); replace ra0 := BA0.out.row?_all 18 (by simp); replace BA1 := Lib.hid (BA1.out.keep hbx); replace ra1 := BA1.out.row?_all 18 (by simp); replace HB := Lib.hid (HB.out.trans (hbx.mono HB.out.size)); clear hbx) | (go_at_call 13; with_reducible refine (bits_I _ _).mono ?_; rintro e wx ⟨rfl, hbx⟩; replace BA0 := Lib.hid (BA0.out.keep hbx); replace ra0 := BA0.out.row?_all 18 (by simp); replace BA1 := Lib.hid (BA1.out.keep hbx); replace ra1 := BA1.out.row?_all 18 (by simp); replace HB := Lib.hid (HB.out.trans (hbx.mono HB.out.size)); clear hbx))
        go_ret
        exact ⟨rfl, HB.out⟩
      · have l3 := L3.out
        rw [if_neg hs0] at l3
        have HBL := Lib.hid l3
        have HS := Lib.hid hs
        clear hs l3
        go_wp2_with (first | (go_at_call 18; refine (add_I _ _ _).mono ?_; rintro e wx ⟨rfl, hbx⟩; replace BA0 := Lib.hid (BA0.out.keep hbx); replace ra0 := BA0.out.row?_all 18 (by simp); replace BA1 := Lib.hid (BA1.out.keep hbx); replace ra1 := BA1.out.row?_all 18 (by simp); replace HB := Lib.hid (HB.out.trans (hbx.mono HB.out.size)); clear hbx) | (go_at_call 22; refine (cmp_I _ _ _).mono ?_; rintro e wx ⟨rfl, hbx⟩; replace BA0 := Lib.hid (BA0.out.keep hbx); replace ra0 := BA0.out.row?_all 18 (by simp); replace BA1 := Lib.hid (BA1.out.keep hbx); replace ra1 := BA1.out.row?_all 18 (by simp); replace HB := Lib.hid (HB.out.trans (hbx.mono HB.out.size)); clear hbx) | (go_at_call 15; refine (awake1_c _).mono ?_; rintro e wx ⟨rfl, hbx⟩; replace BA0 := Lib.hid (BA0.out.keep hbx); replace ra0 := BA0.out.row?_all 18 (by simp); replace BA1 := Lib.hid (BA1.out.keep hbx); replace ra1 := BA1.out.row?_all 18 (by simp); replace HB := Lib.hid (HB.out.trans (hbx.mono HB.out.size)); clear hbx) | (go_at_call 21; with_reducible refine (shift_I _ _ _ (by first | decide | exact HJ.out.2 | (have := HJ.out.1; omega))).mono ?_; rintro e wx ⟨rfl, hbx⟩; replace BA0 := Lib.hid (BA0.out.keep hbx); replace ra0 := BA0.out.row?_all 18 (by simp); replace BA1 := Lib.hid (BA1.out.keep hbx); replace ra1 := BA1.out.row?_all 18 (by simp); replace HB := Lib.hid (HB.out.trans (hbx.mono HB.out.size)); clear hbx) | (go_at_call 23; with_reducible refine (sign_x HS).mono ?_; rintro e wx ⟨rfl, hbx⟩; replace BA0 := Lib.hid (BA0.out.keep hbx); replace ra0 := BA0.out.row?_all 18 (by simp); replace BA1 := Lib.hid (BA1.out.keep hbx); replace ra1 := BA1.out.row?_all 18 (by simp); replace HB := Lib.hid (HB.out.trans (hbx.mono HB.out.size)); clear hbx) | (go_at_call 13; with_reducible refine (bits_x HBL).mono ?_; rintro e wx ⟨rfl, hbx⟩; replace BA0 := Lib.hid (BA0.out.keep hbx); replace ra0 := BA0.out.row?_all 18 (by simp); replace BA1 := Lib.hid (BA1.out.keep hbx); replace ra1 := BA1.out.row?_all 18 (by simp); replace HB := Lib.hid (HB.out.trans (hbx.mono HB.out.size)); clear hbx) | (go_at_call 13; with_reducible refine (bits_I _ _).mono ?_; rintro e wx ⟨rfl, hbx⟩; replace BA0 := Lib.hid (BA0.out.keep hbx); replace ra0 := BA0.out.row?_all 18 (by simp); replace BA1 := Lib.hid (BA1.out.keep hbx); replace ra1 := BA1.out.row?_all 18 (by simp); replace HB := Lib.hid (HB.out.trans (hbx.mono HB.out.size)); clear hbx))
        go_ret
        exact ⟨rfl, HB.out⟩
    · have b1 : (400 : Int) < (bl z0.sz : Int) := by omega
      clear LW hbl
      (first | (go_at_call 14; refine (over_I _ _).mono ?_; rintro e wx ⟨rfl, hbx⟩; replace BA0 := Lib.hid (BA0.out.keep hbx); replace ra0 := BA0.out.row?_all 18 (by simp); replace HB := Lib.hid (HB.out.trans (hbx.mono HB.out.size)); clear hbx) | (go_at_call 13; refine (bits_I _ _).mono ?_; rintro e wx ⟨rfl, hbx⟩; replace BA0 := Lib.hid (BA0.out.keep hbx); replace ra0 := BA0.out.row?_all 18 (by simp); replace HB := Lib.hid (HB.out.trans (hbx.mono HB.out.size)); clear hbx) | (go_at_call 23; refine (sign_I _ _).mono ?_; rintro e wx ⟨rfl, hbx⟩; replace BA0 := Lib.hid (BA0.out.keep hbx); replace ra0 := BA0.out.row?_all 18 (by simp); replace HB := Lib.hid (HB.out.trans (hbx.mono HB.out.size)); clear hbx) | (go_at_call 18; refine (add_I _ _ _).mono ?_; rintro e wx ⟨rfl, hbx⟩; replace BA0 := Lib.hid (BA0.out.keep hbx); replace ra0 := BA0.out.row?_all 18 (by simp); replace HB := Lib.hid (HB.out.trans (hbx.mono HB.out.size)); clear hbx) | (go_at_call 22; refine (cmp_I _ _ _).mono ?_; rintro e wx ⟨rfl, hbx⟩; replace BA0 := Lib.hid (BA0.out.keep hbx); replace ra0 := BA0.out.row?_all 18 (by simp); replace HB := Lib.hid (HB.out.trans (hbx.mono HB.out.size)); clear hbx) | (go_at_call 15; refine (awake1_c _).mono ?_; rintro e wx ⟨rfl, hbx⟩; replace BA0 := Lib.hid (BA0.out.keep hbx); replace ra0 := BA0.out.row?_all 18 (by simp); replace HB := Lib.hid (HB.out.trans (hbx.mono HB.out.size)); clear hbx) | (go_at_call 21; with_reducible refine (shift_I _ _ _ (by first | decide | exact HJ.out.2 | (have := HJ.out.1; omega))).mono ?_; rintro e wx ⟨rfl, hbx⟩; replace BA0 := Lib.hid (BA0.out.keep hbx); replace ra0 := BA0.out.row?_all 18 (by simp); replace HB := Lib.hid (HB.out.trans (hbx.mono HB.out.size)); clear hbx))
      rw [ho]
      go_wp2_with (first | (go_at_call 14; refine (over_I _ _).mono ?_; rintro e wx ⟨rfl, hbx⟩; replace BA0 := Lib.hid (BA0.out.keep hbx); replace ra0 := BA0.out.row?_all 18 (by simp); replace HB := Lib.hid (HB.out.trans (hbx.mono HB.out.size)); clear hbx) | (go_at_call 13; refine (bits_I _ _).mono ?_; rintro e wx ⟨rfl, hbx⟩; replace BA0 := Lib.hid (BA0.out.keep hbx); replace ra0 := BA0.out.row?_all 18 (by simp); replace HB := Lib.hid (HB.out.trans (hbx.mono HB.out.size)); clear hbx) | (go_at_call 23; refine (sign_I _ _).mono ?_; rintro e wx ⟨rfl, hbx⟩; replace BA0 := Lib.hid (BA0.out.keep hbx); replace ra0 := BA0.out.row?_all 18 (by simp); replace HB := Lib.hid (HB.out.trans (hbx.mono HB.out.size)); clear hbx) | (go_at_call 18; refine (add_I _ _ _).mono ?_; rintro e wx ⟨rfl, hbx⟩; replace BA0 := Lib.hid (BA0.out.keep hbx); replace ra0 := BA0.out.row?_all 18 (by simp); replace HB := Lib.hid (HB.out.trans (hbx.mono HB.out.size)); clear hbx) | (go_at_call 22; refine (cmp_I _ _ _).mono ?_; rintro e wx ⟨rfl, hbx⟩; replace BA0 := Lib.hid (BA0.out.keep hbx); replace ra0 := BA0.out.row?_all 18 (by simp); replace HB := Lib.hid (HB.out.trans (hbx.mono HB.out.size)); clear hbx) | (go_at_call 15; refine (awake1_c _).mono ?_; rintro e wx ⟨rfl, hbx⟩; replace BA0 := Lib.hid (BA0.out.keep hbx); replace ra0 := BA0.out.row?_all 18 (by simp); replace HB := Lib.hid (HB.out.trans (hbx.mono HB.out.size)); clear hbx) | (go_at_call 21; with_reducible refine (shift_I _ _ _ (by first | decide | exact HJ.out.2 | (have := HJ.out.1; omega))).mono ?_; rintro e wx ⟨rfl, hbx⟩; replace BA0 := Lib.hid (BA0.out.keep hbx); replace ra0 := BA0.out.row?_all 18 (by simp); replace HB := Lib.hid (HB.out.trans (hbx.mono HB.out.size)); clear hbx))
      go_ret
      exact ⟨rfl, HB.out⟩
end Go.Proofs.Ytkepdjmgmjhejaa
