/- The walks of GrowAtLeast, GrowNothing. -/
import Derived.Test.YtgddblbpmfaahaaE6
namespace Go.Proofs.Ytgddblbpmfaahaa
open Go.RowKit

theorem least_v (a b d a' b' d' : Int) (q : Bool) (h : leastB a b d a' b' d' = q) (w : World) :
    Calls Try.prog 18 #[symV a b d, symV a' b' d'] w fun e w' => e = .returned (.bool q) ∧ Below w.heap.size w w' := by
  subst h; exact least_c a b d a' b' d' w
theorem ellmay_v (x y a b d : Int) (m : Bool) (h : El.may ⟨x, y, a, b, d⟩ = m) (w : World) :
    Calls Try.prog 19 #[elC x y a b d] w fun e w' => e = .returned (.bool m) ∧ Below w.heap.size w w' := by
  subst h; exact ellmay_c x y a b d w
theorem El.may_mat (e : El) (h : e.may = true) : mayB e.a e.b e.d = true := by
  have := (El.may_iff e).1 h
  rw [mayB_iff]; omega
theorem sum_leastB {e f o : El} (h : sumE e f = (o, 0)) : leastB o.a o.b o.d e.a e.b e.d = true := by
  obtain ⟨he, _, _, ho⟩ := sumE_ok h
  exact (least_iff _ _ _ _ _ _).2 ⟨El.may_mat _ ho, El.may_mat _ he, sum_least h⟩
theorem sumE_err {e f o : El} {k : Int} (h : sumE e f = (o, k)) (hk : k ≠ 0) : o = El.zero := by
  unfold sumE at h
  split at h
  · split at h
    · injection h with h1 h2; exact absurd h2.symm hk
    · injection h with h1 h2; exact h1.symm
  · injection h with h1 h2; exact h1.symm

set_option maxRecDepth 100000 in
set_option maxHeartbeats 4000000 in
theorem growAtLeast_c (x y a b d x' y' a' b' d' : Int) (w : World) :
    Calls Try.prog 5 #[elC x y a b d, elC x' y' a' b' d'] w fun e w' => e = .returned (.bool true) ∧ Below w.heap.size w w' := by
  obtain ⟨⟨ox, oy, oa, ob, od⟩, k, ho⟩ : ∃ o k, sumE ⟨x, y, a, b, d⟩ ⟨x', y', a', b', d'⟩ = (o, k) := ⟨_, _, rfl⟩
  have HO := Lib.hid ho
  by_cases hk : k = 0
  · subst hk
    have ho2 := ho
    rw [sum_comm] at ho2
    have H1 : Hid (leastB oa ob od a b d = true) := sum_leastB ho
    have H2 : Hid (leastB oa ob od a' b' d' = true) := sum_leastB ho2
    clear ho ho2
    go_enter Try.func5, Try.ntmps5
    go_wp2_with fail
    refine (sum_v _ _ _ _ _ _ _ _ _ _ _ _ HO.out _).mono ?_; rintro e w1 ⟨rfl, hb1⟩; have z_w1 := hb1.size; (try simp at z_w1); obtain ⟨y_w1_0_0, c_w1_0_0, f_w1_0_0, r_w1_0_0, t_w1_0_0, p_w1_0_0⟩ := bk hb1 (w.heap.size) (by first | omega | (simp; done) | (simp; omega) | fail); obtain ⟨y_w1_0_1, c_w1_0_1, f_w1_0_1, r_w1_0_1, t_w1_0_1, p_w1_0_1⟩ := bk hb1 (w.heap.size + 1) (by first | omega | (simp; done) | (simp; omega) | fail)
    go_wp2_with fail
    refine (least_v _ _ _ _ _ _ _ H1.out _).mono ?_; rintro e w2 ⟨rfl, hb2⟩; have z_w2 := hb2.size; (try simp at z_w2); obtain ⟨y_w2_0_0, c_w2_0_0, f_w2_0_0, r_w2_0_0, t_w2_0_0, p_w2_0_0⟩ := bk hb2 (w.heap.size) (by first | omega | (simp; done) | (simp; omega) | fail); obtain ⟨y_w2_0_1, c_w2_0_1, f_w2_0_1, r_w2_0_1, t_w2_0_1, p_w2_0_1⟩ := bk hb2 (w.heap.size + 1) (by first | omega | (simp; done) | (simp; omega) | fail); obtain ⟨y_w2_1_0, c_w2_1_0, f_w2_1_0, r_w2_1_0, t_w2_1_0, p_w2_1_0⟩ := bk hb2 (w1.heap.size) (by first | omega | (simp; done) | (simp; omega) | fail)
    go_wp2_with fail
    refine (least_v _ _ _ _ _ _ _ H2.out _).mono ?_; rintro e w3 ⟨rfl, hb3⟩; have z_w3 := hb3.size; (try simp at z_w3); obtain ⟨y_w3_0_0, c_w3_0_0, f_w3_0_0, r_w3_0_0, t_w3_0_0, p_w3_0_0⟩ := bk hb3 (w.heap.size) (by first | omega | (simp; done) | (simp; omega) | fail); obtain ⟨y_w3_0_1, c_w3_0_1, f_w3_0_1, r_w3_0_1, t_w3_0_1, p_w3_0_1⟩ := bk hb3 (w.heap.size + 1) (by first | omega | (simp; done) | (simp; omega) | fail); obtain ⟨y_w3_1_0, c_w3_1_0, f_w3_1_0, r_w3_1_0, t_w3_1_0, p_w3_1_0⟩ := bk hb3 (w1.heap.size) (by first | omega | (simp; done) | (simp; omega) | fail)
    go_wp2_with fail
    refine (awake5_c _).mono ?_; rintro e w4 ⟨rfl, hb4⟩
    go_wp2
    go_ret
    exact ⟨rfl, (by repeat (first | with_reducible exact Below.refl _ _ | with_reducible exact Below_of_hid (by assumption) | with_reducible refine Below.drew ?_ | with_reducible refine below_drewN ?_ _ | (with_reducible refine Below_putRow ?_ ?hB _ _; case hB => (first | omega | (simp; done) | (simp; omega))) | (with_reducible refine Below.alloc ?_ ?hB _; case hB => (first | omega | (simp; done) | (simp; omega))) | (with_reducible refine Below.setCell ?_ ?hB _; case hB => (first | omega | (simp; done) | (simp; omega))) | (with_reducible refine Below.trans ?_ (Below.mono (by assumption) ?hB); case hB => (first | omega | (simp; done) | (simp; omega)))))⟩
  · have h2 : (k != 0) = true := by simp [hk]
    clear ho
    go_enter Try.func5, Try.ntmps5
    go_wp2_with fail
    refine (sum_v _ _ _ _ _ _ _ _ _ _ _ _ HO.out _).mono ?_; rintro e w1 ⟨rfl, hb1⟩; have z_w1 := hb1.size; (try simp at z_w1); obtain ⟨y_w1_0_0, c_w1_0_0, f_w1_0_0, r_w1_0_0, t_w1_0_0, p_w1_0_0⟩ := bk hb1 (w.heap.size) (by first | omega | (simp; done) | (simp; omega) | fail); obtain ⟨y_w1_0_1, c_w1_0_1, f_w1_0_1, r_w1_0_1, t_w1_0_1, p_w1_0_1⟩ := bk hb1 (w.heap.size + 1) (by first | omega | (simp; done) | (simp; omega) | fail)
    go_wp2_with fail
    refine (awake5_c _).mono ?_; rintro e w4 ⟨rfl, hb4⟩
    go_wp2
    go_ret
    exact ⟨rfl, (by repeat (first | with_reducible exact Below.refl _ _ | with_reducible exact Below_of_hid (by assumption) | with_reducible refine Below.drew ?_ | with_reducible refine below_drewN ?_ _ | (with_reducible refine Below_putRow ?_ ?hB _ _; case hB => (first | omega | (simp; done) | (simp; omega))) | (with_reducible refine Below.alloc ?_ ?hB _; case hB => (first | omega | (simp; done) | (simp; omega))) | (with_reducible refine Below.setCell ?_ ?hB _; case hB => (first | omega | (simp; done) | (simp; omega))) | (with_reducible refine Below.trans ?_ (Below.mono (by assumption) ?hB); case hB => (first | omega | (simp; done) | (simp; omega)))))⟩

theorem rem_range (k : Int) (m : Int) (hm : 0 < m) (hm2 : m ≤ 1000000000) : 0 ≤ wrap64 ((IntKind.u64.wrap k).tmod m) ∧ wrap64 ((IntKind.u64.wrap k).tmod m) < m := by
  have h0 : 0 ≤ IntKind.u64.wrap k := by rw [IntKind.wrap_u64]; omega
  have h1 := Int.tmod_lt_of_pos (IntKind.u64.wrap k) hm
  have h2 := Int.tmod_nonneg m h0
  have : wrap64 ((IntKind.u64.wrap k).tmod m) = (IntKind.u64.wrap k).tmod m := by unfold wrap64; omega
  omega
theorem ageE_zero (e : El) (v : Int) (hv : 0 ≤ v) : ageE e v 0 = growE e 0 ∧ ageE e 0 v = growE e 0 := by
  unfold ageE
  by_cases hm : e.may = true
  · rw [if_pos ⟨hm, hv, by decide⟩, if_neg (by omega), if_pos ⟨hm, by decide, hv⟩, if_neg, Int.mul_zero, Int.zero_mul]
    · exact ⟨rfl, rfl⟩
    · rintro ⟨_, h⟩
      rw [Int.tdiv_eq_ediv_of_nonneg (by decide)] at h
      have := Int.ediv_nonneg (show (0 : Int) ≤ 4194304 by decide) hv
      omega
  · rw [if_neg (fun h => hm h.1), if_neg (fun h => hm h.1)]
    have : growE e 0 = (El.zero, 1) := by unfold growE; rw [if_neg (fun h => hm h.1)]
    rw [this]; exact ⟨rfl, rfl⟩

set_option maxRecDepth 100000 in
set_option maxHeartbeats 4000000 in
theorem growNothing_c (x y a b d n : Int) (w : World) :
    Calls Try.prog 6 #[elC x y a b d, .int .i64 n] w fun e w' => e = .returned (.bool true) ∧ Below w.heap.size w w' := by
  obtain ⟨K, hK⟩ : ∃ K, wrap64 ((IntKind.u64.wrap n).tmod 1000000) = K := ⟨_, rfl⟩
  have K0 : 0 ≤ K ∧ K < 1000000 := by rw [← hK]; exact rem_range n 1000000 (by decide) (by decide)
  have KL : Hid (K ≤ 9223372036854775807) := by show K ≤ _; omega
  obtain ⟨z1, z2⟩ := ageE_zero ⟨x, y, a, b, d⟩ K K0.1
  cases hm : El.may ⟨x, y, a, b, d⟩ with
  | true =>
    have g := growE_zero _ hm
    rw [g] at z1 z2
    have HM := Lib.hid hm
    have H1 := Lib.hid g
    have H2 := Lib.hid z1
    have H3 := Lib.hid z2
    clear hm g z1 z2 K0
    go_enter Try.func6, Try.ntmps6
    go_wp2_with fail
    refine (growball_v _ _ _ _ _ _ _ _ _ _ _ _ H1.out _).mono ?_; rintro e w1 ⟨rfl, hb1⟩; have z_w1 := hb1.size; (try simp at z_w1); obtain ⟨y_w1_0_0, c_w1_0_0, f_w1_0_0, r_w1_0_0, t_w1_0_0, p_w1_0_0⟩ := bk hb1 (w.heap.size) (by first | omega | (simp; done) | (simp; omega) | fail)
    go_wp2_with fail
    refine (age_v _ _ _ _ _ _ _ _ _ _ _ _ _ (by decide) H2.out _).mono ?_; rintro e w2 ⟨rfl, hb2⟩; have z_w2 := hb2.size; (try simp at z_w2); obtain ⟨y_w2_0_0, c_w2_0_0, f_w2_0_0, r_w2_0_0, t_w2_0_0, p_w2_0_0⟩ := bk hb2 (w.heap.size) (by first | omega | (simp; done) | (simp; omega) | fail); obtain ⟨y_w2_1_0, c_w2_1_0, f_w2_1_0, r_w2_1_0, t_w2_1_0, p_w2_1_0⟩ := bk hb2 (w1.heap.size) (by first | omega | (simp; done) | (simp; omega) | fail)
    go_wp2_with fail
    refine (age_v _ _ _ _ _ _ _ _ _ _ _ _ _ KL.out H3.out _).mono ?_; rintro e w3 ⟨rfl, hb3⟩; have z_w3 := hb3.size; (try simp at z_w3); obtain ⟨y_w3_0_0, c_w3_0_0, f_w3_0_0, r_w3_0_0, t_w3_0_0, p_w3_0_0⟩ := bk hb3 (w.heap.size) (by first | omega | (simp; done) | (simp; omega) | fail); obtain ⟨y_w3_1_0, c_w3_1_0, f_w3_1_0, r_w3_1_0, t_w3_1_0, p_w3_1_0⟩ := bk hb3 (w1.heap.size) (by first | omega | (simp; done) | (simp; omega) | fail); obtain ⟨y_w3_2_0, c_w3_2_0, f_w3_2_0, r_w3_2_0, t_w3_2_0, p_w3_2_0⟩ := bk hb3 (w2.heap.size) (by first | omega | (simp; done) | (simp; omega) | fail)
    go_wp2_with fail
    refine (ellmay_v _ _ _ _ _ _ HM.out _).mono ?_; rintro e w4 ⟨rfl, hb4⟩; have z_w4 := hb4.size; (try simp at z_w4); obtain ⟨y_w4_0_0, c_w4_0_0, f_w4_0_0, r_w4_0_0, t_w4_0_0, p_w4_0_0⟩ := bk hb4 (w.heap.size) (by first | omega | (simp; done) | (simp; omega) | fail); obtain ⟨y_w4_1_0, c_w4_1_0, f_w4_1_0, r_w4_1_0, t_w4_1_0, p_w4_1_0⟩ := bk hb4 (w1.heap.size) (by first | omega | (simp; done) | (simp; omega) | fail); obtain ⟨y_w4_2_0, c_w4_2_0, f_w4_2_0, r_w4_2_0, t_w4_2_0, p_w4_2_0⟩ := bk hb4 (w2.heap.size) (by first | omega | (simp; done) | (simp; omega) | fail); obtain ⟨y_w4_3_0, c_w4_3_0, f_w4_3_0, r_w4_3_0, t_w4_3_0, p_w4_3_0⟩ := bk hb4 (w3.heap.size) (by first | omega | (simp; done) | (simp; omega) | fail)
    go_wp2_with fail
    refine (awake5_c _).mono ?_; rintro e w5 ⟨rfl, hb5⟩
    go_wp2
    go_ret
    exact ⟨rfl, (by repeat (first | with_reducible exact Below.refl _ _ | with_reducible exact Below_of_hid (by assumption) | with_reducible refine Below.drew ?_ | with_reducible refine below_drewN ?_ _ | (with_reducible refine Below_putRow ?_ ?hB _ _; case hB => (first | omega | (simp; done) | (simp; omega))) | (with_reducible refine Below.alloc ?_ ?hB _; case hB => (first | omega | (simp; done) | (simp; omega))) | (with_reducible refine Below.setCell ?_ ?hB _; case hB => (first | omega | (simp; done) | (simp; omega))) | (with_reducible refine Below.trans ?_ (Below.mono (by assumption) ?hB); case hB => (first | omega | (simp; done) | (simp; omega)))))⟩
  | false =>
    have g : growE ⟨x, y, a, b, d⟩ 0 = (⟨0, 0, 0, 0, 0⟩, 1) := by unfold growE; rw [if_neg]; (focus rfl); rintro ⟨h, _⟩; rw [hm] at h; cases h
    rw [g] at z1 z2
    have HM := Lib.hid hm
    have H1 := Lib.hid g
    have H2 := Lib.hid z1
    have H3 := Lib.hid z2
    clear hm g z1 z2 K0
    go_enter Try.func6, Try.ntmps6
    go_wp2_with fail
    refine (growball_v _ _ _ _ _ _ _ _ _ _ _ _ H1.out _).mono ?_; rintro e w1 ⟨rfl, hb1⟩; have z_w1 := hb1.size; (try simp at z_w1); obtain ⟨y_w1_0_0, c_w1_0_0, f_w1_0_0, r_w1_0_0, t_w1_0_0, p_w1_0_0⟩ := bk hb1 (w.heap.size) (by first | omega | (simp; done) | (simp; omega) | fail)
    go_wp2_with fail
    refine (age_v _ _ _ _ _ _ _ _ _ _ _ _ _ (by decide) H2.out _).mono ?_; rintro e w2 ⟨rfl, hb2⟩; have z_w2 := hb2.size; (try simp at z_w2); obtain ⟨y_w2_0_0, c_w2_0_0, f_w2_0_0, r_w2_0_0, t_w2_0_0, p_w2_0_0⟩ := bk hb2 (w.heap.size) (by first | omega | (simp; done) | (simp; omega) | fail)
    go_wp2_with fail
    refine (age_v _ _ _ _ _ _ _ _ _ _ _ _ _ KL.out H3.out _).mono ?_; rintro e w3 ⟨rfl, hb3⟩; have z_w3 := hb3.size; (try simp at z_w3); obtain ⟨y_w3_0_0, c_w3_0_0, f_w3_0_0, r_w3_0_0, t_w3_0_0, p_w3_0_0⟩ := bk hb3 (w.heap.size) (by first | omega | (simp; done) | (simp; omega) | fail)
    go_wp2_with fail
    refine (ellmay_v _ _ _ _ _ _ HM.out _).mono ?_; rintro e w4 ⟨rfl, hb4⟩; have z_w4 := hb4.size; (try simp at z_w4); obtain ⟨y_w4_0_0, c_w4_0_0, f_w4_0_0, r_w4_0_0, t_w4_0_0, p_w4_0_0⟩ := bk hb4 (w.heap.size) (by first | omega | (simp; done) | (simp; omega) | fail)
    go_wp2_with fail
    refine (awake5_c _).mono ?_; rintro e w5 ⟨rfl, hb5⟩
    go_wp2
    go_ret
    exact ⟨rfl, (by repeat (first | with_reducible exact Below.refl _ _ | with_reducible exact Below_of_hid (by assumption) | with_reducible refine Below.drew ?_ | with_reducible refine below_drewN ?_ _ | (with_reducible refine Below_putRow ?_ ?hB _ _; case hB => (first | omega | (simp; done) | (simp; omega))) | (with_reducible refine Below.alloc ?_ ?hB _; case hB => (first | omega | (simp; done) | (simp; omega))) | (with_reducible refine Below.setCell ?_ ?hB _; case hB => (first | omega | (simp; done) | (simp; omega))) | (with_reducible refine Below.trans ?_ (Below.mono (by assumption) ?hB); case hB => (first | omega | (simp; done) | (simp; omega)))))⟩
end Go.Proofs.Ytgddblbpmfaahaa
