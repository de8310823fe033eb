/- What the laws of grow say of two balls (awake); the walk of GrowTurns. -/
import Derived.Test.YtgddblbpmfaahaaE5
import Derived.Test.YtgddblbpmfaahaaQb
namespace Go.Proofs.Ytgddblbpmfaahaa
open Go.RowKit

theorem trace_v (x y a b d t : Int) (h : El.tr ⟨x, y, a, b, d⟩ = t) (w : World) :
    Calls Try.prog 11 #[elC x y a b d] w fun e w' => e = .returned (.int .i64 t) ∧ Below w.heap.size w w' := by
  subst h; exact trace_c x y a b d w

theorem rad_ten : El.rad ⟨0, 0, 100, 0, 100⟩ = 15 := by
  have h : (El.tr ⟨0, 0, 100, 0, 100⟩).toNat = 200 := by decide
  unfold El.rad
  rw [h, up_unique (n := 200) (r := 15) (by decide) (.inr (by decide))]; rfl
theorem grow_ten : growE ⟨0, 0, 100, 0, 100⟩ 10 = (⟨0, 0, 402, 0, 402⟩, 0) := by
  have hb : ballE 0 0 10 = (⟨0, 0, 100, 0, 100⟩, 0) := rfl
  have hs : sumEl ⟨0, 0, 100, 0, 100⟩ ⟨0, 0, 100, 0, 100⟩ = ⟨0, 0, 402, 0, 402⟩ := by
    unfold sumEl; rw [rad_ten]; rfl
  unfold growE
  rw [if_pos (by decide), if_neg (by decide), hb]
  unfold sumE
  rw [if_pos (by decide), hs, if_pos (by decide)]

set_option maxHeartbeats 1000000 in
theorem awake5_c (w : World) : Calls Try.prog 12 #[] w fun e w' => e = .returned (.bool true) ∧ Below w.heap.size w w' := by
  have h1 : Hid (ballE 0 0 10 = (⟨0, 0, 100, 0, 100⟩, 0)) := show _ = _ from rfl
  have h2 := Lib.hid grow_ten
  have h3 : Hid (El.tr ⟨0, 0, 402, 0, 402⟩ = 804) := by show _ = _; decide
  go_enter Try.func12, Try.ntmps12
  go_wp2_with fail
  refine (ellball_v _ _ _ _ _ _ _ _ _ h1.out _).mono ?_; rintro e w1 ⟨rfl, hb1⟩; have s1 := hb1.size
  go_wp2_with fail
  refine (growball_v _ _ _ _ _ _ _ _ _ _ _ _ h2.out _).mono ?_; rintro e w2 ⟨rfl, hb2⟩; have s2 := hb2.size; (try simp at s2)
  go_wp2_with fail
  refine (trace_v _ _ _ _ _ _ h3.out _).mono ?_; rintro e w3 ⟨rfl, hb3⟩
  go_wp2
  go_ret
  exact ⟨rfl, (by repeat (first | with_reducible exact Below.refl _ _ | with_reducible exact Below_of_hid (by assumption) | with_reducible refine Below.drew ?_ | with_reducible refine below_drewN ?_ _ | (with_reducible refine Below_putRow ?_ ?hB _ _; case hB => (first | omega | (simp; done) | (simp; omega))) | (with_reducible refine Below.alloc ?_ ?hB _; case hB => (first | omega | (simp; done) | (simp; omega))) | (with_reducible refine Below.setCell ?_ ?hB _; case hB => (first | omega | (simp; done) | (simp; omega))) | (with_reducible refine Below.trans ?_ (Below.mono (by assumption) ?hB); case hB => (first | omega | (simp; done) | (simp; omega)))))⟩

set_option maxRecDepth 100000 in
set_option maxHeartbeats 4000000 in
theorem growTurns_c (x y a b d x' y' a' b' d' : Int) (w : World) :
    Calls Try.prog 3 #[elC x y a b d, elC x' y' a' b' d'] w fun e w' => e = .returned (.bool true) ∧ Below w.heap.size w w' := by
  obtain ⟨⟨ox, oy, oa, ob, od⟩, k, ho⟩ : ∃ o k, sumE ⟨x, y, a, b, d⟩ ⟨x', y', a', b', d'⟩ = (o, k) := ⟨_, _, rfl⟩
  have ho2 := ho
  rw [sum_comm] at ho2
  have HO := Lib.hid ho
  have HO2 := Lib.hid ho2
  by_cases hk : k = 0
  · subst hk
    obtain ⟨t1, h1⟩ : ∃ t, El.tr ⟨x, y, a, b, d⟩ = t := ⟨_, rfl⟩
    obtain ⟨t2, h2⟩ : ∃ t, El.tr ⟨x', y', a', b', d'⟩ = t := ⟨_, rfl⟩
    obtain ⟨t3, h3⟩ : ∃ t, El.tr ⟨ox, oy, oa, ob, od⟩ = t := ⟨_, rfl⟩
    have l1 := El.tr_le ⟨x, y, a, b, d⟩
    have l2 := El.tr_le ⟨x', y', a', b', d'⟩
    have l3 := sum_trace ho
    rw [h1] at l1 l3; rw [h2] at l2 l3; rw [h3] at l3
    have le : t1 + t2 ≤ t3 := by omega
    have H1 := Lib.hid h1
    have H2 := Lib.hid h2
    have H3 := Lib.hid h3
    have wr : wrap64 (t1 + t2) = t1 + t2 := by unfold wrap64; omega
    have hd : decide (t1 + t2 ≤ t3) = true := decide_eq_true le
    clear ho ho2 h1 h2 h3 l3
    go_enter Try.func3, Try.ntmps3
    go_wp2_with fail
    refine (sum_v _ _ _ _ _ _ _ _ _ _ _ _ HO.out _).mono ?_; rintro e w1 ⟨rfl, hb1⟩; have z_w1 := hb1.size; (try simp at z_w1); obtain ⟨y_w1_0_0, c_w1_0_0, f_w1_0_0, r_w1_0_0, t_w1_0_0, p_w1_0_0⟩ := bk hb1 (w.heap.size) (by first | omega | (simp; done) | (simp; omega) | fail); obtain ⟨y_w1_0_1, c_w1_0_1, f_w1_0_1, r_w1_0_1, t_w1_0_1, p_w1_0_1⟩ := bk hb1 (w.heap.size + 1) (by first | omega | (simp; done) | (simp; omega) | fail)
    go_wp2_with fail
    refine (sum_v _ _ _ _ _ _ _ _ _ _ _ _ HO2.out _).mono ?_; rintro e w2 ⟨rfl, hb2⟩; have z_w2 := hb2.size; (try simp at z_w2); obtain ⟨y_w2_0_0, c_w2_0_0, f_w2_0_0, r_w2_0_0, t_w2_0_0, p_w2_0_0⟩ := bk hb2 (w.heap.size) (by first | omega | (simp; done) | (simp; omega) | fail); obtain ⟨y_w2_0_1, c_w2_0_1, f_w2_0_1, r_w2_0_1, t_w2_0_1, p_w2_0_1⟩ := bk hb2 (w.heap.size + 1) (by first | omega | (simp; done) | (simp; omega) | fail); obtain ⟨y_w2_1_0, c_w2_1_0, f_w2_1_0, r_w2_1_0, t_w2_1_0, p_w2_1_0⟩ := bk hb2 (w1.heap.size) (by first | omega | (simp; done) | (simp; omega) | fail)
    go_wp2_with fail
    obtain ⟨w3, hw3⟩ : ∃ w3, w3 = w2.alloc (Obj.cells #[.int .i64 ox, .int .i64 oy, .int .i64 oa, .int .i64 ob, .int .i64 od] 27) := ⟨_, rfl⟩
    rw [← hw3]
    have hb3 : Below w2.heap.size w2 w3 := by rw [hw3]; exact (by repeat (first | with_reducible exact Below.refl _ _ | with_reducible exact Below_of_hid (by assumption) | with_reducible refine Below.drew ?_ | with_reducible refine below_drewN ?_ _ | (with_reducible refine Below_putRow ?_ ?hB _ _; case hB => (first | omega | (simp; done) | (simp; omega))) | (with_reducible refine Below.alloc ?_ ?hB _; case hB => (first | omega | (simp; done) | (simp; omega))) | (with_reducible refine Below.setCell ?_ ?hB _; case hB => (first | omega | (simp; done) | (simp; omega))) | (with_reducible refine Below.trans ?_ (Below.mono (by assumption) ?hB); case hB => (first | omega | (simp; done) | (simp; omega)))))
    have z_w3 := hb3.size; (try simp at z_w3); obtain ⟨y_w3_0_0, c_w3_0_0, f_w3_0_0, r_w3_0_0, t_w3_0_0, p_w3_0_0⟩ := bk hb3 (w.heap.size) (by first | omega | (simp; done) | (simp; omega) | fail); obtain ⟨y_w3_0_1, c_w3_0_1, f_w3_0_1, r_w3_0_1, t_w3_0_1, p_w3_0_1⟩ := bk hb3 (w.heap.size + 1) (by first | omega | (simp; done) | (simp; omega) | fail); obtain ⟨y_w3_1_0, c_w3_1_0, f_w3_1_0, r_w3_1_0, t_w3_1_0, p_w3_1_0⟩ := bk hb3 (w1.heap.size) (by first | omega | (simp; done) | (simp; omega) | fail)
    clear hw3
    have c0 := cell_regrown (show w3.cell? ⟨w.heap.size, 0, none⟩ = some (.int .i64 x) from (by go_simp)); have c1 := cell_regrown (show w3.cell? ⟨w.heap.size, 1, none⟩ = some (.int .i64 y) from (by go_simp)); have c2 := cell_regrown (show w3.cell? ⟨w.heap.size, 2, none⟩ = some (.int .i64 a) from (by go_simp)); have c3 := cell_regrown (show w3.cell? ⟨w.heap.size, 3, none⟩ = some (.int .i64 b) from (by go_simp)); have c4 := cell_regrown (show w3.cell? ⟨w.heap.size, 4, none⟩ = some (.int .i64 d) from (by go_simp))
    have e0 := cell_regrown (show w3.cell? ⟨w.heap.size + 1, 0, none⟩ = some (.int .i64 x') from (by go_simp)); have e1 := cell_regrown (show w3.cell? ⟨w.heap.size + 1, 1, none⟩ = some (.int .i64 y') from (by go_simp)); have e2 := cell_regrown (show w3.cell? ⟨w.heap.size + 1, 2, none⟩ = some (.int .i64 a') from (by go_simp)); have e3 := cell_regrown (show w3.cell? ⟨w.heap.size + 1, 3, none⟩ = some (.int .i64 b') from (by go_simp)); have e4 := cell_regrown (show w3.cell? ⟨w.heap.size + 1, 4, none⟩ = some (.int .i64 d') from (by go_simp))
    have g0 := cell_regrown (show w3.cell? ⟨w1.heap.size, 0, none⟩ = some (.int .i64 ox) from (by go_simp)); have g1 := cell_regrown (show w3.cell? ⟨w1.heap.size, 1, none⟩ = some (.int .i64 oy) from (by go_simp)); have g2 := cell_regrown (show w3.cell? ⟨w1.heap.size, 2, none⟩ = some (.int .i64 oa) from (by go_simp)); have g3 := cell_regrown (show w3.cell? ⟨w1.heap.size, 3, none⟩ = some (.int .i64 ob) from (by go_simp)); have g4 := cell_regrown (show w3.cell? ⟨w1.heap.size, 4, none⟩ = some (.int .i64 od) from (by go_simp))
    refine wp_region_quiet_below (by kernel_rfl) (by kernel_rfl) ?_
    repeat (go_big_quiet_step (first
      | exact Calls.regrown_of (trace_v _ _ _ _ _ _ (by first | with_reducible exact H1.out | with_reducible exact H2.out | with_reducible exact H3.out) _)
      | exact Calls.regrown_of (awake5_c _)))
    refine wpQuiet_nil ?_
    intro wq hwq
    have hbq := below_of_regrown hwq
    clear hwq
    go_wp2
    go_ret
    exact ⟨rfl, (by repeat (first | with_reducible exact Below.refl _ _ | with_reducible exact Below_of_hid (by assumption) | with_reducible refine Below.drew ?_ | with_reducible refine below_drewN ?_ _ | (with_reducible refine Below_putRow ?_ ?hB _ _; case hB => (first | omega | (simp; done) | (simp; omega))) | (with_reducible refine Below.alloc ?_ ?hB _; case hB => (first | omega | (simp; done) | (simp; omega))) | (with_reducible refine Below.setCell ?_ ?hB _; case hB => (first | omega | (simp; done) | (simp; omega))) | (with_reducible refine Below.trans ?_ (Below.mono (by assumption) ?hB); case hB => (first | omega | (simp; done) | (simp; omega)))))⟩
  · have h2 : (k != 0) = true := by simp [hk]
    have h3 : (k == 0) = false := by simp [hk]
    clear ho ho2
    go_enter Try.func3, Try.ntmps3
    go_wp2_with fail
    refine (sum_v _ _ _ _ _ _ _ _ _ _ _ _ HO.out _).mono ?_; rintro e w1 ⟨rfl, hb1⟩; have z_w1 := hb1.size; (try simp at z_w1); obtain ⟨y_w1_0_0, c_w1_0_0, f_w1_0_0, r_w1_0_0, t_w1_0_0, p_w1_0_0⟩ := bk hb1 (w.heap.size) (by first | omega | (simp; done) | (simp; omega) | fail); obtain ⟨y_w1_0_1, c_w1_0_1, f_w1_0_1, r_w1_0_1, t_w1_0_1, p_w1_0_1⟩ := bk hb1 (w.heap.size + 1) (by first | omega | (simp; done) | (simp; omega) | fail)
    go_wp2_with fail
    refine (sum_v _ _ _ _ _ _ _ _ _ _ _ _ HO2.out _).mono ?_; rintro e w2 ⟨rfl, hb2⟩; have z_w2 := hb2.size; (try simp at z_w2); obtain ⟨y_w2_0_0, c_w2_0_0, f_w2_0_0, r_w2_0_0, t_w2_0_0, p_w2_0_0⟩ := bk hb2 (w.heap.size) (by first | omega | (simp; done) | (simp; omega) | fail); obtain ⟨y_w2_0_1, c_w2_0_1, f_w2_0_1, r_w2_0_1, t_w2_0_1, p_w2_0_1⟩ := bk hb2 (w.heap.size + 1) (by first | omega | (simp; done) | (simp; omega) | fail); obtain ⟨y_w2_1_0, c_w2_1_0, f_w2_1_0, r_w2_1_0, t_w2_1_0, p_w2_1_0⟩ := bk hb2 (w1.heap.size) (by first | omega | (simp; done) | (simp; omega) | fail)
    go_wp2_with fail
    refine wp_region_quiet_below (by kernel_rfl) (by kernel_rfl) ?_
    repeat (go_big_quiet_step (exact Calls.regrown_of (awake5_c _)))
    refine wpQuiet_nil ?_
    intro wq hwq
    have hbq := below_of_regrown hwq
    clear hwq
    go_wp2
    go_ret
    exact ⟨rfl, (by repeat (first | with_reducible exact Below.refl _ _ | with_reducible exact Below_of_hid (by assumption) | with_reducible refine Below.drew ?_ | with_reducible refine below_drewN ?_ _ | (with_reducible refine Below_putRow ?_ ?hB _ _; case hB => (first | omega | (simp; done) | (simp; omega))) | (with_reducible refine Below.alloc ?_ ?hB _; case hB => (first | omega | (simp; done) | (simp; omega))) | (with_reducible refine Below.setCell ?_ ?hB _; case hB => (first | omega | (simp; done) | (simp; omega))) | (with_reducible refine Below.trans ?_ (Below.mono (by assumption) ?hB); case hB => (first | omega | (simp; done) | (simp; omega)))))⟩
end Go.Proofs.Ytgddblbpmfaahaa
