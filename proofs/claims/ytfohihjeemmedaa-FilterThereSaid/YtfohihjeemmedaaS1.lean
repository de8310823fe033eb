/- The walks of esmf where there is no filter; New, Valid, E, Lose, Set of one that there is. -/
import Derived.Test.YtfohihjeemmedaaS0
import Derived.BigRegion
namespace Go.Proofs.Ytfohihjeemmedaa
open Go.RowKit

theorem nil_valid (w : World) : Calls Try.prog 21 #[.pointer none] w fun e w' => e = .returned (.bool false) ∧ Below w.heap.size w w' := by
  go_enter Try.func21, Try.ntmps21
  go_wp2_with fail
  go_ret
  exact ⟨rfl, (by repeat (first | with_reducible exact Below.refl _ _ | with_reducible exact Below_of_hid (by assumption) | with_reducible refine Below.drew ?_ | with_reducible refine below_drewN ?_ _ | (with_reducible refine Below_putRow ?_ ?hB _ _; case hB => (first | omega | (simp; done) | (simp; omega))) | (with_reducible refine Below.alloc ?_ ?hB _; case hB => (first | omega | (simp; done) | (simp; omega))) | (with_reducible refine Below.setCell ?_ ?hB _; case hB => (first | omega | (simp; done) | (simp; omega))) | (with_reducible refine Below.trans ?_ (Below.mono (by assumption) ?hB); case hB => (first | omega | (simp; done) | (simp; omega)))))⟩
theorem nil_lose (w : World) : Calls Try.prog 23 #[.pointer none] w fun e w' => e = .returned (.tuple #[]) ∧ Below w.heap.size w w' := by
  go_enter Try.func23, Try.ntmps23
  go_wp2_with fail
  refine bodyPost_end (results_none rfl _ _ _) rfl ?_
  exact ⟨rfl, (by repeat (first | with_reducible exact Below.refl _ _ | with_reducible exact Below_of_hid (by assumption) | with_reducible refine Below.drew ?_ | with_reducible refine below_drewN ?_ _ | (with_reducible refine Below_putRow ?_ ?hB _ _; case hB => (first | omega | (simp; done) | (simp; omega))) | (with_reducible refine Below.alloc ?_ ?hB _; case hB => (first | omega | (simp; done) | (simp; omega))) | (with_reducible refine Below.setCell ?_ ?hB _; case hB => (first | omega | (simp; done) | (simp; omega))) | (with_reducible refine Below.trans ?_ (Below.mono (by assumption) ?hB); case hB => (first | omega | (simp; done) | (simp; omega)))))⟩
theorem nil_set (x y a b d : Int) (w : World) : Calls Try.prog 19 #[.pointer none, elC x y a b d] w fun e w' => e = .returned (.int .i64 1) ∧ Below w.heap.size w w' := by
  go_enter Try.func19, Try.ntmps19
  go_wp2_with fail
  go_ret
  exact ⟨rfl, (by repeat (first | with_reducible exact Below.refl _ _ | with_reducible exact Below_of_hid (by assumption) | with_reducible refine Below.drew ?_ | with_reducible refine below_drewN ?_ _ | (with_reducible refine Below_putRow ?_ ?hB _ _; case hB => (first | omega | (simp; done) | (simp; omega))) | (with_reducible refine Below.alloc ?_ ?hB _; case hB => (first | omega | (simp; done) | (simp; omega))) | (with_reducible refine Below.setCell ?_ ?hB _; case hB => (first | omega | (simp; done) | (simp; omega))) | (with_reducible refine Below.trans ?_ (Below.mono (by assumption) ?hB); case hB => (first | omega | (simp; done) | (simp; omega)))))⟩
theorem nil_move (x y n : Int) (w : World) : Calls Try.prog 20 #[.pointer none, ptV x y, .int .i64 n] w fun e w' => e = .returned (.int .i64 1) ∧ Below w.heap.size w w' := by
  go_enter Try.func20, Try.ntmps20
  go_wp2_with fail
  go_ret
  exact ⟨rfl, (by repeat (first | with_reducible exact Below.refl _ _ | with_reducible exact Below_of_hid (by assumption) | with_reducible refine Below.drew ?_ | with_reducible refine below_drewN ?_ _ | (with_reducible refine Below_putRow ?_ ?hB _ _; case hB => (first | omega | (simp; done) | (simp; omega))) | (with_reducible refine Below.alloc ?_ ?hB _; case hB => (first | omega | (simp; done) | (simp; omega))) | (with_reducible refine Below.setCell ?_ ?hB _; case hB => (first | omega | (simp; done) | (simp; omega))) | (with_reducible refine Below.trans ?_ (Below.mono (by assumption) ?hB); case hB => (first | omega | (simp; done) | (simp; omega)))))⟩
theorem nil_range (x y a b d lo hi : Int) (w : World) : Calls Try.prog 24 #[.pointer none, elC x y a b d, .int .i64 lo, .int .i64 hi] w fun e w' => e = .returned (.int .i64 1) ∧ Below w.heap.size w w' := by
  go_enter Try.func24, Try.ntmps24
  go_wp2_with fail
  go_ret
  exact ⟨rfl, (by repeat (first | with_reducible exact Below.refl _ _ | with_reducible exact Below_of_hid (by assumption) | with_reducible refine Below.drew ?_ | with_reducible refine below_drewN ?_ _ | (with_reducible refine Below_putRow ?_ ?hB _ _; case hB => (first | omega | (simp; done) | (simp; omega))) | (with_reducible refine Below.alloc ?_ ?hB _; case hB => (first | omega | (simp; done) | (simp; omega))) | (with_reducible refine Below.setCell ?_ ?hB _; case hB => (first | omega | (simp; done) | (simp; omega))) | (with_reducible refine Below.trans ?_ (Below.mono (by assumption) ?hB); case hB => (first | omega | (simp; done) | (simp; omega)))))⟩
theorem nil_meet (x y a b d : Int) (w : World) : Calls Try.prog 25 #[.pointer none, elC x y a b d] w fun e w' => e = .returned (.int .i64 1) ∧ Below w.heap.size w w' := by
  go_enter Try.func25, Try.ntmps25
  go_wp2_with fail
  go_ret
  exact ⟨rfl, (by repeat (first | with_reducible exact Below.refl _ _ | with_reducible exact Below_of_hid (by assumption) | with_reducible refine Below.drew ?_ | with_reducible refine below_drewN ?_ _ | (with_reducible refine Below_putRow ?_ ?hB _ _; case hB => (first | omega | (simp; done) | (simp; omega))) | (with_reducible refine Below.alloc ?_ ?hB _; case hB => (first | omega | (simp; done) | (simp; omega))) | (with_reducible refine Below.setCell ?_ ?hB _; case hB => (first | omega | (simp; done) | (simp; omega))) | (with_reducible refine Below.trans ?_ (Below.mono (by assumption) ?hB); case hB => (first | omega | (simp; done) | (simp; omega)))))⟩
theorem nil_e (w : World) : Calls Try.prog 22 #[.pointer none] w fun e w' => e = .returned (elC 0 0 0 0 0) ∧ Below w.heap.size w w' := by
  go_enter Try.func22, Try.ntmps22
  go_wp2_with fail
  exact bodyPost_row 5 #[.int .i64 0, .int .i64 0, .int .i64 0, .int .i64 0, .int .i64 0] rfl rfl rfl Try.underlying27 rfl (by kernel_rfl) (row_of_cells 4 _ rfl (by intro i hi; rcases i with _ | _ | _ | _ | _ | i; (go_simp); (go_simp); (go_simp); (go_simp); (go_simp); exact absurd hi (by omega))) ⟨rfl, (by repeat (first | with_reducible exact Below.refl _ _ | with_reducible exact Below_of_hid (by assumption) | with_reducible refine Below.drew ?_ | with_reducible refine below_drewN ?_ _ | (with_reducible refine Below_putRow ?_ ?hB _ _; case hB => (first | omega | (simp; done) | (simp; omega))) | (with_reducible refine Below.alloc ?_ ?hB _; case hB => (first | omega | (simp; done) | (simp; omega))) | (with_reducible refine Below.setCell ?_ ?hB _; case hB => (first | omega | (simp; done) | (simp; omega))) | (with_reducible refine Below.trans ?_ (Below.mono (by assumption) ?hB); case hB => (first | omega | (simp; done) | (simp; omega)))))⟩
/-- A filter's block. -/
abbrev flt (most : Int) (v : Bool) (x y a b d : Int) : Array Value := #[.int .i64 most, .bool v, .int .i64 x, .int .i64 y, .int .i64 a, .int .i64 b, .int .i64 d]
theorem new_c (n : Int) (w : World) : Calls Try.prog 18 #[.int .i64 n] w fun e w' => ∃ g, e = .returned (.pointer (some ⟨g, 0, none⟩)) ∧ w.heap.size ≤ g ∧ Blk w' g (flt (max 2 n) false 0 0 0 0 0) 75 ∧ Below w.heap.size w w' := by
  go_enter Try.func18, Try.ntmps18
  go_wp2_with fail
  go_ret
  exact ⟨_, rfl, (by first | omega | (simp; done) | (simp; omega) | fail), Blk.new _ _ _, (by repeat (first | with_reducible exact Below.refl _ _ | with_reducible exact Below_of_hid (by assumption) | with_reducible refine Below.drew ?_ | with_reducible refine below_drewN ?_ _ | (with_reducible refine Below_putRow ?_ ?hB _ _; case hB => (first | omega | (simp; done) | (simp; omega))) | (with_reducible refine Below.alloc ?_ ?hB _; case hB => (first | omega | (simp; done) | (simp; omega))) | (with_reducible refine Below.setCell ?_ ?hB _; case hB => (first | omega | (simp; done) | (simp; omega))) | (with_reducible refine Below.trans ?_ (Below.mono (by assumption) ?hB); case hB => (first | omega | (simp; done) | (simp; omega)))))⟩
section
variable (g : Nat) (m : Int) (v : Bool) (x y a b d : Int) (w : World) (B : Blk w g (flt m v x y a b d) 75)
include B
theorem valid_c : Calls Try.prog 21 #[.pointer (some ⟨g, 0, none⟩)] w fun e w' => e = .returned (.bool v) ∧ Below w.heap.size w w' := by
  obtain ⟨y1, c1, f1, r1⟩ := (show g < w.heap.size ∧ (∀ o, w.cell? ⟨g, o, none⟩ = (flt m v x y a b d)[o]?) ∧ (∀ o, w.frozen? ⟨g, o, none⟩ = false) ∧ w.row? g 0 7 = some (flt m v x y a b d) from ⟨B.lt, B.at, B.frozen, B.row?_all _ rfl⟩)
  go_enter Try.func21, Try.ntmps21
  go_wp2_with fail
  go_ret
  exact ⟨rfl, (by repeat (first | with_reducible exact Below.refl _ _ | with_reducible exact Below_of_hid (by assumption) | with_reducible refine Below.drew ?_ | with_reducible refine below_drewN ?_ _ | (with_reducible refine Below_putRow ?_ ?hB _ _; case hB => (first | omega | (simp; done) | (simp; omega))) | (with_reducible refine Below.alloc ?_ ?hB _; case hB => (first | omega | (simp; done) | (simp; omega))) | (with_reducible refine Below.setCell ?_ ?hB _; case hB => (first | omega | (simp; done) | (simp; omega))) | (with_reducible refine Below.trans ?_ (Below.mono (by assumption) ?hB); case hB => (first | omega | (simp; done) | (simp; omega)))))⟩
theorem e_c : Calls Try.prog 22 #[.pointer (some ⟨g, 0, none⟩)] w fun e w' => e = .returned (elC x y a b d) ∧ Below w.heap.size w w' := by
  obtain ⟨y1, c1, f1, r1⟩ := (show g < w.heap.size ∧ (∀ o, w.cell? ⟨g, o, none⟩ = (flt m v x y a b d)[o]?) ∧ (∀ o, w.frozen? ⟨g, o, none⟩ = false) ∧ w.row? g 0 7 = some (flt m v x y a b d) from ⟨B.lt, B.at, B.frozen, B.row?_all _ rfl⟩)
  go_enter Try.func22, Try.ntmps22
  go_wp2_with fail
  exact bodyPost_row 5 #[.int .i64 x, .int .i64 y, .int .i64 a, .int .i64 b, .int .i64 d] rfl rfl rfl Try.underlying27 rfl (by kernel_rfl) (row_of_cells 4 _ rfl (by intro i hi; rcases i with _ | _ | _ | _ | _ | i; (go_simp); (go_simp); (go_simp); (go_simp); (go_simp); exact absurd hi (by omega))) ⟨rfl, (by repeat (first | with_reducible exact Below.refl _ _ | with_reducible exact Below_of_hid (by assumption) | with_reducible refine Below.drew ?_ | with_reducible refine below_drewN ?_ _ | (with_reducible refine Below_putRow ?_ ?hB _ _; case hB => (first | omega | (simp; done) | (simp; omega))) | (with_reducible refine Below.alloc ?_ ?hB _; case hB => (first | omega | (simp; done) | (simp; omega))) | (with_reducible refine Below.setCell ?_ ?hB _; case hB => (first | omega | (simp; done) | (simp; omega))) | (with_reducible refine Below.trans ?_ (Below.mono (by assumption) ?hB); case hB => (first | omega | (simp; done) | (simp; omega)))))⟩
theorem lose_c : Calls Try.prog 23 #[.pointer (some ⟨g, 0, none⟩)] w fun e w' => e = .returned (.tuple #[]) ∧ OnlyAt g w w' ∧ Blk w' g (flt m false 0 0 0 0 0) 75 := by
  obtain ⟨y1, c1, f1, r1⟩ := (show g < w.heap.size ∧ (∀ o, w.cell? ⟨g, o, none⟩ = (flt m v x y a b d)[o]?) ∧ (∀ o, w.frozen? ⟨g, o, none⟩ = false) ∧ w.row? g 0 7 = some (flt m v x y a b d) from ⟨B.lt, B.at, B.frozen, B.row?_all _ rfl⟩)
  go_enter Try.func23, Try.ntmps23
  go_wp2_with fail
  refine bodyPost_end (results_none rfl _ _ _) rfl ?_
  refine ⟨rfl, (by repeat (first | with_reducible exact OnlyAt.refl | with_reducible refine OnlyAt.drew ?_ | with_reducible refine OnlyAt.setCell ?_ _ _ | (with_reducible refine OnlyAt.setNew ?_ ?hB _ _; case hB => (first | omega | (simp; done) | (simp; omega))) | with_reducible refine OnlyAt.alloc ?_ _ | with_reducible refine OnlyAt.trans ?_ (OnlyAt.of_below (by assumption)) | with_reducible refine OnlyAt.trans ?_ (by assumption))), ?_⟩
  refine Blk.of_eq (((((((B.setCell_same 1 _).setCell_same 2 _).setCell_same 3 _).setCell_same 4 _).setCell_same 5 _).setCell_same 6 _)) ?_
  rfl
end
def setS (m : Int) (v : Bool) (e f : El) : (Bool × El) × Int := if f.may = true then (if m < f.tr then ((v, e), 2) else ((true, f), 0)) else ((v, e), 1)
set_option maxRecDepth 100000 in
set_option maxHeartbeats 4000000 in
theorem set_c (g : Nat) (m : Int) (v : Bool) (x y a b d x' y' a' b' d' : Int) (w : World) (B : Blk w g (flt m v x y a b d) 75) :
    Calls Try.prog 19 #[.pointer (some ⟨g, 0, none⟩), elC x' y' a' b' d'] w fun e w' => ∃ v1 e1 k, setS m v ⟨x, y, a, b, d⟩ ⟨x', y', a', b', d'⟩ = ((v1, e1), k) ∧ e = .returned (.int .i64 k) ∧ OnlyAt g w w' ∧ Blk w' g (flt m v1 e1.x e1.y e1.a e1.b e1.d) 75 := by
  obtain ⟨y1, c1, f1, r1⟩ := (show g < w.heap.size ∧ (∀ o, w.cell? ⟨g, o, none⟩ = (flt m v x y a b d)[o]?) ∧ (∀ o, w.frozen? ⟨g, o, none⟩ = false) ∧ w.row? g 0 7 = some (flt m v x y a b d) from ⟨B.lt, B.at, B.frozen, B.row?_all _ rfl⟩)
  have HB := Lib.hid B
  cases hm : El.may ⟨x', y', a', b', d'⟩ with
  | false =>
    have HM := Lib.hid hm
    have E : Hid (setS m v ⟨x, y, a, b, d⟩ ⟨x', y', a', b', d'⟩ = ((v, ⟨x, y, a, b, d⟩), 1)) := by show _ = _; unfold setS; rw [if_neg (by rw [hm]; decide)]
    clear hm B
    go_enter Try.func19, Try.ntmps19
    go_wp2_with fail
    refine (ellmay_v _ _ _ _ _ _ HM.out _).mono ?_; rintro e w1 ⟨rfl, hb1⟩
    have B1 := (HB.out.alloc _).keep hb1
    go_wp2_with fail
    go_ret
    exact ⟨_, _, _, E.out, rfl, (by repeat (first | with_reducible exact OnlyAt.refl | with_reducible refine OnlyAt.drew ?_ | with_reducible refine OnlyAt.setCell ?_ _ _ | (with_reducible refine OnlyAt.setNew ?_ ?hB _ _; case hB => (first | omega | (simp; done) | (simp; omega))) | with_reducible refine OnlyAt.alloc ?_ _ | with_reducible refine OnlyAt.trans ?_ (OnlyAt.of_below (by assumption)) | with_reducible refine OnlyAt.trans ?_ (by assumption))), B1⟩
  | true =>
    have HM := Lib.hid hm
    by_cases ht : m < El.tr ⟨x', y', a', b', d'⟩
    · obtain ⟨t, hT⟩ : ∃ t, El.tr ⟨x', y', a', b', d'⟩ = t := ⟨_, rfl⟩
      have HT := Lib.hid hT
      have E : Hid (setS m v ⟨x, y, a, b, d⟩ ⟨x', y', a', b', d'⟩ = ((v, ⟨x, y, a, b, d⟩), 2)) := by show _ = _; unfold setS; rw [if_pos hm, if_pos ht]
      rw [hT] at ht
      clear hm hT B
      go_enter Try.func19, Try.ntmps19
      go_wp2_with fail
      refine (ellmay_v _ _ _ _ _ _ HM.out _).mono ?_; rintro e w1 ⟨rfl, hb1⟩; have z_w1 := hb1.size; (try simp at z_w1); obtain ⟨y_w1_0_0, c_w1_0_0, f_w1_0_0, r_w1_0_0, t_w1_0_0, p_w1_0_0⟩ := bk hb1 (w.heap.size) (by first | omega | (simp; done) | (simp; omega) | fail); obtain ⟨y_w1_g, c_w1_g, f_w1_g, r_w1_g, t_w1_g, p_w1_g⟩ := bk hb1 (g) (by first | omega | (simp; done) | (simp; omega) | fail)
      have B1 := (HB.out.alloc _).keep hb1
      go_wp2_with fail
      have c0 := cell_regrown (show w1.cell? ⟨w.heap.size, 0, none⟩ = some (.int .i64 x') from (by go_simp)); have c1 := cell_regrown (show w1.cell? ⟨w.heap.size, 1, none⟩ = some (.int .i64 y') from (by go_simp)); have c2 := cell_regrown (show w1.cell? ⟨w.heap.size, 2, none⟩ = some (.int .i64 a') from (by go_simp)); have c3 := cell_regrown (show w1.cell? ⟨w.heap.size, 3, none⟩ = some (.int .i64 b') from (by go_simp)); have c4 := cell_regrown (show w1.cell? ⟨w.heap.size, 4, none⟩ = some (.int .i64 d') from (by go_simp))
      have m0 := cell_regrown (show w1.cell? ⟨g, 0, none⟩ = some (.int .i64 m) from (by go_simp))
      refine wp_region_quiet_below (by kernel_rfl) (by kernel_rfl) ?_
      repeat (go_big_quiet_step (first | (go_at_call 13; exact Calls.regrown_of (trace_v _ _ _ _ _ _ HT.out _))))
      refine wpQuiet_nil ?_
      intro wq hwq
      have hbq := below_of_regrown hwq
      have B2 := B1.keep hbq
      clear hwq
      go_wp2_with fail
      go_ret
      exact ⟨_, _, _, E.out, rfl, (by repeat (first | with_reducible exact OnlyAt.refl | with_reducible refine OnlyAt.drew ?_ | with_reducible refine OnlyAt.setCell ?_ _ _ | (with_reducible refine OnlyAt.setNew ?_ ?hB _ _; case hB => (first | omega | (simp; done) | (simp; omega))) | with_reducible refine OnlyAt.alloc ?_ _ | with_reducible refine OnlyAt.trans ?_ (OnlyAt.of_below (by assumption)) | with_reducible refine OnlyAt.trans ?_ (by assumption))), B2⟩
    · obtain ⟨t, hT⟩ : ∃ t, El.tr ⟨x', y', a', b', d'⟩ = t := ⟨_, rfl⟩
      have HT := Lib.hid hT
      have E : Hid (setS m v ⟨x, y, a, b, d⟩ ⟨x', y', a', b', d'⟩ = ((true, ⟨x', y', a', b', d'⟩), 0)) := by show _ = _; unfold setS; rw [if_pos hm, if_neg ht]
      rw [hT] at ht
      clear hm hT B
      go_enter Try.func19, Try.ntmps19
      go_wp2_with fail
      refine (ellmay_v _ _ _ _ _ _ HM.out _).mono ?_; rintro e w1 ⟨rfl, hb1⟩; have z_w1 := hb1.size; (try simp at z_w1); obtain ⟨y_w1_0_0, c_w1_0_0, f_w1_0_0, r_w1_0_0, t_w1_0_0, p_w1_0_0⟩ := bk hb1 (w.heap.size) (by first | omega | (simp; done) | (simp; omega) | fail); obtain ⟨y_w1_g, c_w1_g, f_w1_g, r_w1_g, t_w1_g, p_w1_g⟩ := bk hb1 (g) (by first | omega | (simp; done) | (simp; omega) | fail)
      have B1 := (HB.out.alloc _).keep hb1
      go_wp2_with fail
      have c0 := cell_regrown (show w1.cell? ⟨w.heap.size, 0, none⟩ = some (.int .i64 x') from (by go_simp)); have c1 := cell_regrown (show w1.cell? ⟨w.heap.size, 1, none⟩ = some (.int .i64 y') from (by go_simp)); have c2 := cell_regrown (show w1.cell? ⟨w.heap.size, 2, none⟩ = some (.int .i64 a') from (by go_simp)); have c3 := cell_regrown (show w1.cell? ⟨w.heap.size, 3, none⟩ = some (.int .i64 b') from (by go_simp)); have c4 := cell_regrown (show w1.cell? ⟨w.heap.size, 4, none⟩ = some (.int .i64 d') from (by go_simp))
      have m0 := cell_regrown (show w1.cell? ⟨g, 0, none⟩ = some (.int .i64 m) from (by go_simp))
      refine wp_region_quiet_below (by kernel_rfl) (by kernel_rfl) ?_
      repeat (go_big_quiet_step (first | (go_at_call 13; exact Calls.regrown_of (trace_v _ _ _ _ _ _ HT.out _))))
      refine wpQuiet_nil ?_
      intro wq hwq
      have hbq := below_of_regrown hwq
      have B2 := B1.keep hbq
      have z_wq := hbq.size; (try simp at z_wq); obtain ⟨y_wq_0_0, c_wq_0_0, f_wq_0_0, r_wq_0_0, t_wq_0_0, p_wq_0_0⟩ := bk hbq (w.heap.size) (by first | omega | (simp; done) | (simp; omega) | fail); obtain ⟨y_wq_g, c_wq_g, f_wq_g, r_wq_g, t_wq_g, p_wq_g⟩ := bk hbq (g) (by first | omega | (simp; done) | (simp; omega) | fail)
      clear hwq
      go_wp2_with fail
      go_region
      go_wp2_with fail
      go_ret
      refine ⟨_, _, _, E.out, rfl, (by repeat (first | with_reducible exact OnlyAt.refl | with_reducible refine OnlyAt.drew ?_ | with_reducible refine OnlyAt.setCell ?_ _ _ | (with_reducible refine OnlyAt.setNew ?_ ?hB _ _; case hB => (first | omega | (simp; done) | (simp; omega))) | with_reducible refine OnlyAt.alloc ?_ _ | with_reducible refine OnlyAt.trans ?_ (OnlyAt.of_below (by assumption)) | with_reducible refine OnlyAt.trans ?_ (by assumption))), ?_⟩
      apply Blk.of_eq
      · repeat (first | with_reducible exact B2 | with_reducible apply Blk.drew | with_reducible apply blk_drewN | with_reducible apply Blk.setCell_same)
      · first | rfl | trace_state
end Go.Proofs.Ytfohihjeemmedaa
