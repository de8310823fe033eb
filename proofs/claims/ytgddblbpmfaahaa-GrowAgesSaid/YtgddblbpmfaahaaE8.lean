/- The walks of GrowHolds, GrowBalls. -/
import Derived.Test.YtgddblbpmfaahaaE7
namespace Go.Proofs.Ytgddblbpmfaahaa
open Go.RowKit

theorem ellin_v (x y a b d p q : Int) (t : Bool) (h : El.has ⟨x, y, a, b, d⟩ p q = t) (w : World) :
    Calls Try.prog 20 #[elC x y a b d, ptV p q] w fun e w' => e = .returned (.bool t) ∧ Below w.heap.size w w' := by
  subst h; exact ellin_c x y a b d p q w

set_option maxRecDepth 100000 in
set_option maxHeartbeats 4000000 in
theorem growHolds_c (x y a b d x' y' a' b' d' p q p' q' : Int) (w : World) :
    Calls Try.prog 7 #[elC x y a b d, elC x' y' a' b' d', ptV p q, ptV p' q'] w fun e w' => e = .returned (.bool true) ∧ Below w.heap.size w w' := by
  obtain ⟨o, k, ho⟩ : ∃ o k, sumE ⟨x, y, a, b, d⟩ ⟨x', y', a', b', d'⟩ = (o, k) := ⟨_, _, rfl⟩
  by_cases hk : k = 0
  · subst hk
    obtain ⟨he, hf, h1, hm⟩ := sumE_ok ho
    obtain ⟨ox, oy, oa, ob, od⟩ := o
    have e1 : ox = x + x' := congrArg El.x h1
    have e2 : oy = y + y' := congrArg El.y h1
    have HO := Lib.hid ho
    have HM := Lib.hid hm
    cases hp : El.has ⟨x, y, a, b, d⟩ p q with
    | false =>
      have HP := Lib.hid hp
      clear ho he hf h1 hm e1 e2 hp
      go_enter Try.func7, Try.ntmps7
      go_wp2_with fail
      refine (sum_v _ _ _ _ _ _ _ _ _ _ _ _ HO.out _).mono ?_; rintro e w1 ⟨rfl, hb1⟩; have z_w1 := hb1.size; (try simp at z_w1); obtain ⟨y_w1_0_0, c_w1_0_0, f_w1_0_0, r_w1_0_0, t_w1_0_0, p_w1_0_0⟩ := bk hb1 (w.heap.size) (by first | omega | (simp; done) | (simp; omega) | fail); obtain ⟨y_w1_0_1, c_w1_0_1, f_w1_0_1, r_w1_0_1, t_w1_0_1, p_w1_0_1⟩ := bk hb1 (w.heap.size + 1) (by first | omega | (simp; done) | (simp; omega) | fail); obtain ⟨y_w1_0_2, c_w1_0_2, f_w1_0_2, r_w1_0_2, t_w1_0_2, p_w1_0_2⟩ := bk hb1 (w.heap.size + 1 + 1) (by first | omega | (simp; done) | (simp; omega) | fail); obtain ⟨y_w1_0_3, c_w1_0_3, f_w1_0_3, r_w1_0_3, t_w1_0_3, p_w1_0_3⟩ := bk hb1 (w.heap.size + 1 + 1 + 1) (by first | omega | (simp; done) | (simp; omega) | fail)
      go_wp2_with fail
      refine (ellin_v _ _ _ _ _ _ _ _ HP.out _).mono ?_; rintro e w2 ⟨rfl, hb2⟩; have z_w2 := hb2.size; (try simp at z_w2); obtain ⟨y_w2_0_0, c_w2_0_0, f_w2_0_0, r_w2_0_0, t_w2_0_0, p_w2_0_0⟩ := bk hb2 (w.heap.size) (by first | omega | (simp; done) | (simp; omega) | fail); obtain ⟨y_w2_0_1, c_w2_0_1, f_w2_0_1, r_w2_0_1, t_w2_0_1, p_w2_0_1⟩ := bk hb2 (w.heap.size + 1) (by first | omega | (simp; done) | (simp; omega) | fail); obtain ⟨y_w2_0_2, c_w2_0_2, f_w2_0_2, r_w2_0_2, t_w2_0_2, p_w2_0_2⟩ := bk hb2 (w.heap.size + 1 + 1) (by first | omega | (simp; done) | (simp; omega) | fail); obtain ⟨y_w2_0_3, c_w2_0_3, f_w2_0_3, r_w2_0_3, t_w2_0_3, p_w2_0_3⟩ := bk hb2 (w.heap.size + 1 + 1 + 1) (by first | omega | (simp; done) | (simp; omega) | fail); obtain ⟨y_w2_1_0, c_w2_1_0, f_w2_1_0, r_w2_1_0, t_w2_1_0, p_w2_1_0⟩ := bk hb2 (w1.heap.size) (by first | omega | (simp; done) | (simp; omega) | fail)
      go_wp2_with fail
      refine (awake5_c _).mono ?_; rintro e w3 ⟨rfl, hb3⟩
      go_wp2
      go_ret
      exact ⟨rfl, (by repeat (first | with_reducible exact Below.refl _ _ | with_reducible exact Below_of_hid (by assumption) | with_reducible refine Below.drew ?_ | with_reducible refine below_drewN ?_ _ | (with_reducible refine Below_putRow ?_ ?hB _ _; case hB => (first | omega | (simp; done) | (simp; omega))) | (with_reducible refine Below.alloc ?_ ?hB _; case hB => (first | omega | (simp; done) | (simp; omega))) | (with_reducible refine Below.setCell ?_ ?hB _; case hB => (first | omega | (simp; done) | (simp; omega))) | (with_reducible refine Below.trans ?_ (Below.mono (by assumption) ?hB); case hB => (first | omega | (simp; done) | (simp; omega)))))⟩
    | true =>
      cases hq : El.has ⟨x', y', a', b', d'⟩ p' q' with
      | false =>
        have HP := Lib.hid hp
        have HQ := Lib.hid hq
        clear ho he hf h1 hm e1 e2 hp hq
        go_enter Try.func7, Try.ntmps7
        go_wp2_with fail
        refine (sum_v _ _ _ _ _ _ _ _ _ _ _ _ HO.out _).mono ?_; rintro e w1 ⟨rfl, hb1⟩; have z_w1 := hb1.size; (try simp at z_w1); obtain ⟨y_w1_0_0, c_w1_0_0, f_w1_0_0, r_w1_0_0, t_w1_0_0, p_w1_0_0⟩ := bk hb1 (w.heap.size) (by first | omega | (simp; done) | (simp; omega) | fail); obtain ⟨y_w1_0_1, c_w1_0_1, f_w1_0_1, r_w1_0_1, t_w1_0_1, p_w1_0_1⟩ := bk hb1 (w.heap.size + 1) (by first | omega | (simp; done) | (simp; omega) | fail); obtain ⟨y_w1_0_2, c_w1_0_2, f_w1_0_2, r_w1_0_2, t_w1_0_2, p_w1_0_2⟩ := bk hb1 (w.heap.size + 1 + 1) (by first | omega | (simp; done) | (simp; omega) | fail); obtain ⟨y_w1_0_3, c_w1_0_3, f_w1_0_3, r_w1_0_3, t_w1_0_3, p_w1_0_3⟩ := bk hb1 (w.heap.size + 1 + 1 + 1) (by first | omega | (simp; done) | (simp; omega) | fail)
        go_wp2_with fail
        refine (ellin_v _ _ _ _ _ _ _ _ HP.out _).mono ?_; rintro e w2 ⟨rfl, hb2⟩; have z_w2 := hb2.size; (try simp at z_w2); obtain ⟨y_w2_0_0, c_w2_0_0, f_w2_0_0, r_w2_0_0, t_w2_0_0, p_w2_0_0⟩ := bk hb2 (w.heap.size) (by first | omega | (simp; done) | (simp; omega) | fail); obtain ⟨y_w2_0_1, c_w2_0_1, f_w2_0_1, r_w2_0_1, t_w2_0_1, p_w2_0_1⟩ := bk hb2 (w.heap.size + 1) (by first | omega | (simp; done) | (simp; omega) | fail); obtain ⟨y_w2_0_2, c_w2_0_2, f_w2_0_2, r_w2_0_2, t_w2_0_2, p_w2_0_2⟩ := bk hb2 (w.heap.size + 1 + 1) (by first | omega | (simp; done) | (simp; omega) | fail); obtain ⟨y_w2_0_3, c_w2_0_3, f_w2_0_3, r_w2_0_3, t_w2_0_3, p_w2_0_3⟩ := bk hb2 (w.heap.size + 1 + 1 + 1) (by first | omega | (simp; done) | (simp; omega) | fail); obtain ⟨y_w2_1_0, c_w2_1_0, f_w2_1_0, r_w2_1_0, t_w2_1_0, p_w2_1_0⟩ := bk hb2 (w1.heap.size) (by first | omega | (simp; done) | (simp; omega) | fail)
        go_wp2_with fail
        refine (ellin_v _ _ _ _ _ _ _ _ HQ.out _).mono ?_; rintro e w4 ⟨rfl, hb4⟩; have z_w4 := hb4.size; (try simp at z_w4); obtain ⟨y_w4_0_0, c_w4_0_0, f_w4_0_0, r_w4_0_0, t_w4_0_0, p_w4_0_0⟩ := bk hb4 (w.heap.size) (by first | omega | (simp; done) | (simp; omega) | fail); obtain ⟨y_w4_0_1, c_w4_0_1, f_w4_0_1, r_w4_0_1, t_w4_0_1, p_w4_0_1⟩ := bk hb4 (w.heap.size + 1) (by first | omega | (simp; done) | (simp; omega) | fail); obtain ⟨y_w4_0_2, c_w4_0_2, f_w4_0_2, r_w4_0_2, t_w4_0_2, p_w4_0_2⟩ := bk hb4 (w.heap.size + 1 + 1) (by first | omega | (simp; done) | (simp; omega) | fail); obtain ⟨y_w4_0_3, c_w4_0_3, f_w4_0_3, r_w4_0_3, t_w4_0_3, p_w4_0_3⟩ := bk hb4 (w.heap.size + 1 + 1 + 1) (by first | omega | (simp; done) | (simp; omega) | fail); obtain ⟨y_w4_1_0, c_w4_1_0, f_w4_1_0, r_w4_1_0, t_w4_1_0, p_w4_1_0⟩ := bk hb4 (w1.heap.size) (by first | omega | (simp; done) | (simp; omega) | fail)
        go_wp2_with fail
        refine (awake5_c _).mono ?_; rintro e w3 ⟨rfl, hb3⟩
        go_wp2
        go_ret
        exact ⟨rfl, (by repeat (first | with_reducible exact Below.refl _ _ | with_reducible exact Below_of_hid (by assumption) | with_reducible refine Below.drew ?_ | with_reducible refine below_drewN ?_ _ | (with_reducible refine Below_putRow ?_ ?hB _ _; case hB => (first | omega | (simp; done) | (simp; omega))) | (with_reducible refine Below.alloc ?_ ?hB _; case hB => (first | omega | (simp; done) | (simp; omega))) | (with_reducible refine Below.setCell ?_ ?hB _; case hB => (first | omega | (simp; done) | (simp; omega))) | (with_reducible refine Below.trans ?_ (Below.mono (by assumption) ?hB); case hB => (first | omega | (simp; done) | (simp; omega)))))⟩
      | true =>
        have hs := sum_holds ho p q p' q' hp hq
        have HP := Lib.hid hp
        have HQ := Lib.hid hq
        have HS := Lib.hid hs
        obtain ⟨⟨bx1, bx2, by1, by2⟩, -⟩ := (El.may_iff _).1 he
        obtain ⟨⟨bx3, bx4, by3, by4⟩, -⟩ := (El.may_iff _).1 hf
        obtain ⟨-, ⟨p1, p2, p3, p4⟩, -⟩ := (El.has_iff _ _ _).1 hp
        obtain ⟨-, ⟨p5, p6, p7, p8⟩, -⟩ := (El.has_iff _ _ _).1 hq
        simp only at bx1 bx2 by1 by2 bx3 bx4 by3 by4
        subst e1; subst e2
        clear ho he hf h1 hm hp hq hs
        go_enter Try.func7, Try.ntmps7
        go_wp2_with fail
        refine (sum_v _ _ _ _ _ _ _ _ _ _ _ _ HO.out _).mono ?_; rintro e w1 ⟨rfl, hb1⟩; have z_w1 := hb1.size; (try simp at z_w1); obtain ⟨y_w1_0_0, c_w1_0_0, f_w1_0_0, r_w1_0_0, t_w1_0_0, p_w1_0_0⟩ := bk hb1 (w.heap.size) (by first | omega | (simp; done) | (simp; omega) | fail); obtain ⟨y_w1_0_1, c_w1_0_1, f_w1_0_1, r_w1_0_1, t_w1_0_1, p_w1_0_1⟩ := bk hb1 (w.heap.size + 1) (by first | omega | (simp; done) | (simp; omega) | fail); obtain ⟨y_w1_0_2, c_w1_0_2, f_w1_0_2, r_w1_0_2, t_w1_0_2, p_w1_0_2⟩ := bk hb1 (w.heap.size + 1 + 1) (by first | omega | (simp; done) | (simp; omega) | fail); obtain ⟨y_w1_0_3, c_w1_0_3, f_w1_0_3, r_w1_0_3, t_w1_0_3, p_w1_0_3⟩ := bk hb1 (w.heap.size + 1 + 1 + 1) (by first | omega | (simp; done) | (simp; omega) | fail)
        go_wp2_with fail
        refine (ellin_v _ _ _ _ _ _ _ _ HP.out _).mono ?_; rintro e w2 ⟨rfl, hb2⟩; have z_w2 := hb2.size; (try simp at z_w2); obtain ⟨y_w2_0_0, c_w2_0_0, f_w2_0_0, r_w2_0_0, t_w2_0_0, p_w2_0_0⟩ := bk hb2 (w.heap.size) (by first | omega | (simp; done) | (simp; omega) | fail); obtain ⟨y_w2_0_1, c_w2_0_1, f_w2_0_1, r_w2_0_1, t_w2_0_1, p_w2_0_1⟩ := bk hb2 (w.heap.size + 1) (by first | omega | (simp; done) | (simp; omega) | fail); obtain ⟨y_w2_0_2, c_w2_0_2, f_w2_0_2, r_w2_0_2, t_w2_0_2, p_w2_0_2⟩ := bk hb2 (w.heap.size + 1 + 1) (by first | omega | (simp; done) | (simp; omega) | fail); obtain ⟨y_w2_0_3, c_w2_0_3, f_w2_0_3, r_w2_0_3, t_w2_0_3, p_w2_0_3⟩ := bk hb2 (w.heap.size + 1 + 1 + 1) (by first | omega | (simp; done) | (simp; omega) | fail); obtain ⟨y_w2_1_0, c_w2_1_0, f_w2_1_0, r_w2_1_0, t_w2_1_0, p_w2_1_0⟩ := bk hb2 (w1.heap.size) (by first | omega | (simp; done) | (simp; omega) | fail)
        go_wp2_with fail
        refine (ellin_v _ _ _ _ _ _ _ _ HQ.out _).mono ?_; rintro e w4 ⟨rfl, hb4⟩; have z_w4 := hb4.size; (try simp at z_w4); obtain ⟨y_w4_0_0, c_w4_0_0, f_w4_0_0, r_w4_0_0, t_w4_0_0, p_w4_0_0⟩ := bk hb4 (w.heap.size) (by first | omega | (simp; done) | (simp; omega) | fail); obtain ⟨y_w4_0_1, c_w4_0_1, f_w4_0_1, r_w4_0_1, t_w4_0_1, p_w4_0_1⟩ := bk hb4 (w.heap.size + 1) (by first | omega | (simp; done) | (simp; omega) | fail); obtain ⟨y_w4_0_2, c_w4_0_2, f_w4_0_2, r_w4_0_2, t_w4_0_2, p_w4_0_2⟩ := bk hb4 (w.heap.size + 1 + 1) (by first | omega | (simp; done) | (simp; omega) | fail); obtain ⟨y_w4_0_3, c_w4_0_3, f_w4_0_3, r_w4_0_3, t_w4_0_3, p_w4_0_3⟩ := bk hb4 (w.heap.size + 1 + 1 + 1) (by first | omega | (simp; done) | (simp; omega) | fail); obtain ⟨y_w4_1_0, c_w4_1_0, f_w4_1_0, r_w4_1_0, t_w4_1_0, p_w4_1_0⟩ := bk hb4 (w1.heap.size) (by first | omega | (simp; done) | (simp; omega) | fail)
        go_wp2_with fail
        refine (ellmay_v _ _ _ _ _ _ HM.out _).mono ?_; rintro e w5 ⟨rfl, hb5⟩; have z_w5 := hb5.size; (try simp at z_w5); obtain ⟨y_w5_0_0, c_w5_0_0, f_w5_0_0, r_w5_0_0, t_w5_0_0, p_w5_0_0⟩ := bk hb5 (w.heap.size) (by first | omega | (simp; done) | (simp; omega) | fail); obtain ⟨y_w5_0_1, c_w5_0_1, f_w5_0_1, r_w5_0_1, t_w5_0_1, p_w5_0_1⟩ := bk hb5 (w.heap.size + 1) (by first | omega | (simp; done) | (simp; omega) | fail); obtain ⟨y_w5_0_2, c_w5_0_2, f_w5_0_2, r_w5_0_2, t_w5_0_2, p_w5_0_2⟩ := bk hb5 (w.heap.size + 1 + 1) (by first | omega | (simp; done) | (simp; omega) | fail); obtain ⟨y_w5_0_3, c_w5_0_3, f_w5_0_3, r_w5_0_3, t_w5_0_3, p_w5_0_3⟩ := bk hb5 (w.heap.size + 1 + 1 + 1) (by first | omega | (simp; done) | (simp; omega) | fail); obtain ⟨y_w5_1_0, c_w5_1_0, f_w5_1_0, r_w5_1_0, t_w5_1_0, p_w5_1_0⟩ := bk hb5 (w1.heap.size) (by first | omega | (simp; done) | (simp; omega) | fail)
        go_wp2_with fail
        refine (ellin_v _ _ _ _ _ _ _ _ HS.out _).mono ?_; rintro e w6 ⟨rfl, hb6⟩; have z_w6 := hb6.size; (try simp at z_w6); obtain ⟨y_w6_0_0, c_w6_0_0, f_w6_0_0, r_w6_0_0, t_w6_0_0, p_w6_0_0⟩ := bk hb6 (w.heap.size) (by first | omega | (simp; done) | (simp; omega) | fail); obtain ⟨y_w6_0_1, c_w6_0_1, f_w6_0_1, r_w6_0_1, t_w6_0_1, p_w6_0_1⟩ := bk hb6 (w.heap.size + 1) (by first | omega | (simp; done) | (simp; omega) | fail); obtain ⟨y_w6_0_2, c_w6_0_2, f_w6_0_2, r_w6_0_2, t_w6_0_2, p_w6_0_2⟩ := bk hb6 (w.heap.size + 1 + 1) (by first | omega | (simp; done) | (simp; omega) | fail); obtain ⟨y_w6_0_3, c_w6_0_3, f_w6_0_3, r_w6_0_3, t_w6_0_3, p_w6_0_3⟩ := bk hb6 (w.heap.size + 1 + 1 + 1) (by first | omega | (simp; done) | (simp; omega) | fail); obtain ⟨y_w6_1_0, c_w6_1_0, f_w6_1_0, r_w6_1_0, t_w6_1_0, p_w6_1_0⟩ := bk hb6 (w1.heap.size) (by first | omega | (simp; done) | (simp; omega) | fail)
        go_wp2_with fail
        refine (awake5_c _).mono ?_; rintro e w3 ⟨rfl, hb3⟩
        go_wp2
        go_ret
        exact ⟨rfl, (by repeat (first | with_reducible exact Below.refl _ _ | with_reducible exact Below_of_hid (by assumption) | with_reducible refine Below.drew ?_ | with_reducible refine below_drewN ?_ _ | (with_reducible refine Below_putRow ?_ ?hB _ _; case hB => (first | omega | (simp; done) | (simp; omega))) | (with_reducible refine Below.alloc ?_ ?hB _; case hB => (first | omega | (simp; done) | (simp; omega))) | (with_reducible refine Below.setCell ?_ ?hB _; case hB => (first | omega | (simp; done) | (simp; omega))) | (with_reducible refine Below.trans ?_ (Below.mono (by assumption) ?hB); case hB => (first | omega | (simp; done) | (simp; omega)))))⟩
  · obtain rfl := sumE_err ho hk
    have HO : Hid (sumE ⟨x, y, a, b, d⟩ ⟨x', y', a', b', d'⟩ = (⟨0, 0, 0, 0, 0⟩, k)) := ho
    have h2 : (k != 0) = true := by simp [hk]
    have h3 : (k == 0) = false := by simp [hk]
    clear ho
    go_enter Try.func7, Try.ntmps7
    go_wp2_with fail
    refine (sum_v _ _ _ _ _ _ _ _ _ _ _ _ HO.out _).mono ?_; rintro e w1 ⟨rfl, hb1⟩; have z_w1 := hb1.size; (try simp at z_w1); obtain ⟨y_w1_0_0, c_w1_0_0, f_w1_0_0, r_w1_0_0, t_w1_0_0, p_w1_0_0⟩ := bk hb1 (w.heap.size) (by first | omega | (simp; done) | (simp; omega) | fail); obtain ⟨y_w1_0_1, c_w1_0_1, f_w1_0_1, r_w1_0_1, t_w1_0_1, p_w1_0_1⟩ := bk hb1 (w.heap.size + 1) (by first | omega | (simp; done) | (simp; omega) | fail); obtain ⟨y_w1_0_2, c_w1_0_2, f_w1_0_2, r_w1_0_2, t_w1_0_2, p_w1_0_2⟩ := bk hb1 (w.heap.size + 1 + 1) (by first | omega | (simp; done) | (simp; omega) | fail); obtain ⟨y_w1_0_3, c_w1_0_3, f_w1_0_3, r_w1_0_3, t_w1_0_3, p_w1_0_3⟩ := bk hb1 (w.heap.size + 1 + 1 + 1) (by first | omega | (simp; done) | (simp; omega) | fail)
    go_wp2_with fail
    refine (awake5_c _).mono ?_; rintro e w3 ⟨rfl, hb3⟩
    go_wp2
    go_ret
    exact ⟨rfl, (by repeat (first | with_reducible exact Below.refl _ _ | with_reducible exact Below_of_hid (by assumption) | with_reducible refine Below.drew ?_ | with_reducible refine below_drewN ?_ _ | (with_reducible refine Below_putRow ?_ ?hB _ _; case hB => (first | omega | (simp; done) | (simp; omega))) | (with_reducible refine Below.alloc ?_ ?hB _; case hB => (first | omega | (simp; done) | (simp; omega))) | (with_reducible refine Below.setCell ?_ ?hB _; case hB => (first | omega | (simp; done) | (simp; omega))) | (with_reducible refine Below.trans ?_ (Below.mono (by assumption) ?hB); case hB => (first | omega | (simp; done) | (simp; omega)))))⟩

theorem balls_cases (k : Int) (t : Bool) (u v s r : Int) : (¬ k = 0) ∨ (k = 0 ∧ t = false) ∨ (k = 0 ∧ t = true ∧ u < -4194304) ∨ (k = 0 ∧ t = true ∧ ¬ u < -4194304 ∧ 4194304 < u) ∨
    (k = 0 ∧ t = true ∧ ¬ u < -4194304 ∧ ¬ 4194304 < u ∧ v < -4194304) ∨ (k = 0 ∧ t = true ∧ ¬ u < -4194304 ∧ ¬ 4194304 < u ∧ ¬ v < -4194304 ∧ 4194304 < v) ∨
    (k = 0 ∧ t = true ∧ ¬ u < -4194304 ∧ ¬ 4194304 < u ∧ ¬ v < -4194304 ∧ ¬ 4194304 < v ∧ r < s) ∨ (k = 0 ∧ t = true ∧ ¬ u < -4194304 ∧ ¬ 4194304 < u ∧ ¬ v < -4194304 ∧ ¬ 4194304 < v ∧ ¬ r < s) := by
  cases t <;> simp <;> omega
theorem sq_small (u m : Int) (h1 : -m ≤ u) (h2 : u ≤ m) : 0 ≤ u * u ∧ u * u ≤ m * m := by
  refine ⟨int_sq_nonneg u, ?_⟩
  rcases Int.le_total 0 u with h | h
  · exact Int.mul_le_mul h2 h2 h (by omega)
  · have := Int.mul_le_mul (show -u ≤ m by omega) (show -u ≤ m by omega) (show 0 ≤ -u by omega) (by omega)
    rwa [Int.neg_mul_neg] at this

set_option maxRecDepth 100000 in
set_option maxHeartbeats 4000000 in
theorem growBalls_c (x y a b d p q u v r : Int) (w : World) :
    Calls Try.prog 8 #[elC x y a b d, ptV p q, ptV u v, .int .i64 r] w fun e w' => e = .returned (.bool true) ∧ Below w.heap.size w w' := by
  obtain ⟨⟨ox, oy, oa, ob, od⟩, k, ho⟩ : ∃ o k, growE ⟨x, y, a, b, d⟩ r = (o, k) := ⟨_, _, rfl⟩
  obtain ⟨t, hp⟩ : ∃ t, El.has ⟨x, y, a, b, d⟩ p q = t := ⟨_, rfl⟩
  have HO := Lib.hid ho
  have HP := Lib.hid hp
  rcases balls_cases k t u v (u * u + v * v) (r * r) with h0 | ⟨h0, h1⟩ | ⟨h0, h1, h2⟩ | ⟨h0, h1, h2, h3⟩ | ⟨h0, h1, h2, h3, h4⟩ | ⟨h0, h1, h2, h3, h4, h5⟩ | ⟨h0, h1, h2, h3, h4, h5, h6⟩ | ⟨h0, h1, h2, h3, h4, h5, h6⟩
  case inl =>
    have n2 : (k != 0) = true := by simp [h0]
    clear ho hp
    go_enter Try.func8, Try.ntmps8
    go_wp2_with fail
    refine (growball_v _ _ _ _ _ _ _ _ _ _ _ _ HO.out _).mono ?_; rintro e w1 ⟨rfl, hb1⟩; have z_w1 := hb1.size; (try simp at z_w1); obtain ⟨y_w1_0_0, c_w1_0_0, f_w1_0_0, r_w1_0_0, t_w1_0_0, p_w1_0_0⟩ := bk hb1 (w.heap.size) (by first | omega | (simp; done) | (simp; omega) | fail); obtain ⟨y_w1_0_1, c_w1_0_1, f_w1_0_1, r_w1_0_1, t_w1_0_1, p_w1_0_1⟩ := bk hb1 (w.heap.size + 1) (by first | omega | (simp; done) | (simp; omega) | fail); obtain ⟨y_w1_0_2, c_w1_0_2, f_w1_0_2, r_w1_0_2, t_w1_0_2, p_w1_0_2⟩ := bk hb1 (w.heap.size + 1 + 1) (by first | omega | (simp; done) | (simp; omega) | fail)
    go_wp2_with fail
    refine (awake5_c _).mono ?_; rintro e w3 ⟨rfl, hb3⟩
    go_wp2
    go_ret
    exact ⟨rfl, (by repeat (first | with_reducible exact Below.refl _ _ | with_reducible exact Below_of_hid (by assumption) | with_reducible refine Below.drew ?_ | with_reducible refine below_drewN ?_ _ | (with_reducible refine Below_putRow ?_ ?hB _ _; case hB => (first | omega | (simp; done) | (simp; omega))) | (with_reducible refine Below.alloc ?_ ?hB _; case hB => (first | omega | (simp; done) | (simp; omega))) | (with_reducible refine Below.setCell ?_ ?hB _; case hB => (first | omega | (simp; done) | (simp; omega))) | (with_reducible refine Below.trans ?_ (Below.mono (by assumption) ?hB); case hB => (first | omega | (simp; done) | (simp; omega)))))⟩
  case inr.inr.inr.inr.inr.inr.inr =>
    subst h0; subst h1
    have hu := sq_small u 4194304 (by omega) (by omega)
    have hv := sq_small v 4194304 (by omega) (by omega)
    have hr := growE_ok ho
    have hr2 := sq_small r 4194304 (by omega) (by omega)
    have hh := grow_holds ho p q u v hp (by omega)
    obtain ⟨-, ⟨p1, p2, p3, p4⟩, -⟩ := (El.has_iff _ _ _).1 hp
    obtain ⟨cx, cy, -⟩ := grow_centre ho
    simp only at cx cy
    have HH := Lib.hid hh
    obtain ⟨A1, e1⟩ : ∃ A, u * u = A := ⟨_, rfl⟩
    obtain ⟨A2, e2⟩ : ∃ A, v * v = A := ⟨_, rfl⟩
    obtain ⟨R, e3⟩ : ∃ A, r * r = A := ⟨_, rfl⟩
    rw [e1] at hu h6; rw [e2] at hv h6; rw [e3] at hr2 h6
    obtain ⟨hu1, hu2⟩ := hu
    obtain ⟨hv1, hv2⟩ := hv
    obtain ⟨hr1, hr3⟩ := hr2
    by_cases hr0 : r = 0
    · subst hr0
      obtain ⟨_, _, _, ⟨_, hg⟩ | ⟨h, _⟩⟩ := hr
      · obtain ⟨rfl, rfl, rfl, rfl, rfl⟩ : ox = x ∧ oy = y ∧ oa = a ∧ ob = b ∧ od = d := ⟨congrArg El.x hg, congrArg El.y hg, congrArg El.a hg, congrArg El.b hg, congrArg El.d hg⟩
        clear ho hp hh hg cx cy
        go_enter Try.func8, Try.ntmps8
        go_wp2_with fail
        refine (growball_v _ _ _ _ _ _ _ _ _ _ _ _ HO.out _).mono ?_; rintro e w1 ⟨rfl, hb1⟩; have z_w1 := hb1.size; (try simp at z_w1); obtain ⟨y_w1_0_0, c_w1_0_0, f_w1_0_0, r_w1_0_0, t_w1_0_0, p_w1_0_0⟩ := bk hb1 (w.heap.size) (by first | omega | (simp; done) | (simp; omega) | fail); obtain ⟨y_w1_0_1, c_w1_0_1, f_w1_0_1, r_w1_0_1, t_w1_0_1, p_w1_0_1⟩ := bk hb1 (w.heap.size + 1) (by first | omega | (simp; done) | (simp; omega) | fail); obtain ⟨y_w1_0_2, c_w1_0_2, f_w1_0_2, r_w1_0_2, t_w1_0_2, p_w1_0_2⟩ := bk hb1 (w.heap.size + 1 + 1) (by first | omega | (simp; done) | (simp; omega) | fail)
        go_wp2_with fail
        refine (ellin_v _ _ _ _ _ _ _ _ HP.out _).mono ?_; rintro e w2 ⟨rfl, hb2⟩; have z_w2 := hb2.size; (try simp at z_w2); obtain ⟨y_w2_0_0, c_w2_0_0, f_w2_0_0, r_w2_0_0, t_w2_0_0, p_w2_0_0⟩ := bk hb2 (w.heap.size) (by first | omega | (simp; done) | (simp; omega) | fail); obtain ⟨y_w2_0_1, c_w2_0_1, f_w2_0_1, r_w2_0_1, t_w2_0_1, p_w2_0_1⟩ := bk hb2 (w.heap.size + 1) (by first | omega | (simp; done) | (simp; omega) | fail); obtain ⟨y_w2_0_2, c_w2_0_2, f_w2_0_2, r_w2_0_2, t_w2_0_2, p_w2_0_2⟩ := bk hb2 (w.heap.size + 1 + 1) (by first | omega | (simp; done) | (simp; omega) | fail); obtain ⟨y_w2_1_0, c_w2_1_0, f_w2_1_0, r_w2_1_0, t_w2_1_0, p_w2_1_0⟩ := bk hb2 (w1.heap.size) (by first | omega | (simp; done) | (simp; omega) | fail)
        go_wp2_with fail
        refine (awake5_c _).mono ?_; rintro e w3 ⟨rfl, hb3⟩
        go_wp2
        go_ret
        exact ⟨rfl, (by repeat (first | with_reducible exact Below.refl _ _ | with_reducible exact Below_of_hid (by assumption) | with_reducible refine Below.drew ?_ | with_reducible refine below_drewN ?_ _ | (with_reducible refine Below_putRow ?_ ?hB _ _; case hB => (first | omega | (simp; done) | (simp; omega))) | (with_reducible refine Below.alloc ?_ ?hB _; case hB => (first | omega | (simp; done) | (simp; omega))) | (with_reducible refine Below.setCell ?_ ?hB _; case hB => (first | omega | (simp; done) | (simp; omega))) | (with_reducible refine Below.trans ?_ (Below.mono (by assumption) ?hB); case hB => (first | omega | (simp; done) | (simp; omega)))))⟩
      · omega
    · obtain ⟨-, -, ht, -⟩ := grow_more ho hr0
      obtain ⟨t1, k1⟩ : ∃ t, El.tr ⟨x, y, a, b, d⟩ = t := ⟨_, rfl⟩
      obtain ⟨t2, k2⟩ : ∃ t, El.tr ⟨ox, oy, oa, ob, od⟩ = t := ⟨_, rfl⟩
      rw [k1, k2] at ht
      have K1 := Lib.hid k1
      have K2 := Lib.hid k2
      have nr : (r == 0) = false := by simp [hr0]
      have hd : decide (t1 < t2) = true := decide_eq_true ht
      subst cx; subst cy
      clear ho hp hh hr k1 k2
      go_enter Try.func8, Try.ntmps8
      go_wp2_with fail
      refine (growball_v _ _ _ _ _ _ _ _ _ _ _ _ HO.out _).mono ?_; rintro e w1 ⟨rfl, hb1⟩; have z_w1 := hb1.size; (try simp at z_w1); obtain ⟨y_w1_0_0, c_w1_0_0, f_w1_0_0, r_w1_0_0, t_w1_0_0, p_w1_0_0⟩ := bk hb1 (w.heap.size) (by first | omega | (simp; done) | (simp; omega) | fail); obtain ⟨y_w1_0_1, c_w1_0_1, f_w1_0_1, r_w1_0_1, t_w1_0_1, p_w1_0_1⟩ := bk hb1 (w.heap.size + 1) (by first | omega | (simp; done) | (simp; omega) | fail); obtain ⟨y_w1_0_2, c_w1_0_2, f_w1_0_2, r_w1_0_2, t_w1_0_2, p_w1_0_2⟩ := bk hb1 (w.heap.size + 1 + 1) (by first | omega | (simp; done) | (simp; omega) | fail)
      go_wp2_with fail
      refine (ellin_v _ _ _ _ _ _ _ _ HP.out _).mono ?_; rintro e w2 ⟨rfl, hb2⟩; have z_w2 := hb2.size; (try simp at z_w2); obtain ⟨y_w2_0_0, c_w2_0_0, f_w2_0_0, r_w2_0_0, t_w2_0_0, p_w2_0_0⟩ := bk hb2 (w.heap.size) (by first | omega | (simp; done) | (simp; omega) | fail); obtain ⟨y_w2_0_1, c_w2_0_1, f_w2_0_1, r_w2_0_1, t_w2_0_1, p_w2_0_1⟩ := bk hb2 (w.heap.size + 1) (by first | omega | (simp; done) | (simp; omega) | fail); obtain ⟨y_w2_0_2, c_w2_0_2, f_w2_0_2, r_w2_0_2, t_w2_0_2, p_w2_0_2⟩ := bk hb2 (w.heap.size + 1 + 1) (by first | omega | (simp; done) | (simp; omega) | fail); obtain ⟨y_w2_1_0, c_w2_1_0, f_w2_1_0, r_w2_1_0, t_w2_1_0, p_w2_1_0⟩ := bk hb2 (w1.heap.size) (by first | omega | (simp; done) | (simp; omega) | fail)
      go_wp2_with fail
      have c0 := cell_regrown (show w2.cell? ⟨w.heap.size, 0, none⟩ = some (.int .i64 ox) from (by go_simp)); have c1 := cell_regrown (show w2.cell? ⟨w.heap.size, 1, none⟩ = some (.int .i64 oy) from (by go_simp)); have c2 := cell_regrown (show w2.cell? ⟨w.heap.size, 2, none⟩ = some (.int .i64 a) from (by go_simp)); have c3 := cell_regrown (show w2.cell? ⟨w.heap.size, 3, none⟩ = some (.int .i64 b) from (by go_simp)); have c4 := cell_regrown (show w2.cell? ⟨w.heap.size, 4, none⟩ = some (.int .i64 d) from (by go_simp))
      have e0 := cell_regrown (show w2.cell? ⟨w.heap.size + 1, 0, none⟩ = some (.int .i64 p) from (by go_simp)); have e1 := cell_regrown (show w2.cell? ⟨w.heap.size + 1, 1, none⟩ = some (.int .i64 q) from (by go_simp))
      have f0 := cell_regrown (show w2.cell? ⟨w.heap.size + 1 + 1, 0, none⟩ = some (.int .i64 u) from (by go_simp)); have f1 := cell_regrown (show w2.cell? ⟨w.heap.size + 1 + 1, 1, none⟩ = some (.int .i64 v) from (by go_simp))
      have g0 := cell_regrown (show w2.cell? ⟨w1.heap.size, 0, none⟩ = some (.int .i64 ox) from (by go_simp)); have g1 := cell_regrown (show w2.cell? ⟨w1.heap.size, 1, none⟩ = some (.int .i64 oy) from (by go_simp)); have g2 := cell_regrown (show w2.cell? ⟨w1.heap.size, 2, none⟩ = some (.int .i64 oa) from (by go_simp)); have g3 := cell_regrown (show w2.cell? ⟨w1.heap.size, 3, none⟩ = some (.int .i64 ob) from (by go_simp)); have g4 := cell_regrown (show w2.cell? ⟨w1.heap.size, 4, none⟩ = some (.int .i64 od) from (by go_simp))
      refine wp_region_quiet_below (by kernel_rfl) (by kernel_rfl) ?_
      repeat (go_big_quiet_step (first
        | exact Calls.regrown_of (ellin_v _ _ _ _ _ _ _ _ HH.out _)
        | exact Calls.regrown_of (trace_v _ _ _ _ _ _ (by first | with_reducible exact K1.out | with_reducible exact K2.out) _)
        | exact Calls.regrown_of (awake5_c _)))
      refine wpQuiet_nil ?_
      intro wq hwq
      have hbq := below_of_regrown hwq
      clear hwq
      go_wp2
      go_ret
      exact ⟨rfl, (by repeat (first | with_reducible exact Below.refl _ _ | with_reducible exact Below_of_hid (by assumption) | with_reducible refine Below.drew ?_ | with_reducible refine below_drewN ?_ _ | (with_reducible refine Below_putRow ?_ ?hB _ _; case hB => (first | omega | (simp; done) | (simp; omega))) | (with_reducible refine Below.alloc ?_ ?hB _; case hB => (first | omega | (simp; done) | (simp; omega))) | (with_reducible refine Below.setCell ?_ ?hB _; case hB => (first | omega | (simp; done) | (simp; omega))) | (with_reducible refine Below.trans ?_ (Below.mono (by assumption) ?hB); case hB => (first | omega | (simp; done) | (simp; omega)))))⟩
  case inr.inr.inr.inr.inr.inr.inl =>
    subst h0; subst h1
    have hu := sq_small u 4194304 (by omega) (by omega)
    have hv := sq_small v 4194304 (by omega) (by omega)
    have hr := growE_ok ho
    have hr2 := sq_small r 4194304 (by omega) (by omega)
    obtain ⟨A1, e1⟩ : ∃ A, u * u = A := ⟨_, rfl⟩
    obtain ⟨A2, e2⟩ : ∃ A, v * v = A := ⟨_, rfl⟩
    obtain ⟨R, e3⟩ : ∃ A, r * r = A := ⟨_, rfl⟩
    rw [e1] at hu h6; rw [e2] at hv h6; rw [e3] at hr2 h6
    obtain ⟨hu1, hu2⟩ := hu
    obtain ⟨hv1, hv2⟩ := hv
    obtain ⟨hr1, hr3⟩ := hr2
    clear ho hp hr
    go_enter Try.func8, Try.ntmps8
    go_wp2_with fail
    refine (growball_v _ _ _ _ _ _ _ _ _ _ _ _ HO.out _).mono ?_; rintro e w1 ⟨rfl, hb1⟩; have z_w1 := hb1.size; (try simp at z_w1); obtain ⟨y_w1_0_0, c_w1_0_0, f_w1_0_0, r_w1_0_0, t_w1_0_0, p_w1_0_0⟩ := bk hb1 (w.heap.size) (by first | omega | (simp; done) | (simp; omega) | fail); obtain ⟨y_w1_0_1, c_w1_0_1, f_w1_0_1, r_w1_0_1, t_w1_0_1, p_w1_0_1⟩ := bk hb1 (w.heap.size + 1) (by first | omega | (simp; done) | (simp; omega) | fail); obtain ⟨y_w1_0_2, c_w1_0_2, f_w1_0_2, r_w1_0_2, t_w1_0_2, p_w1_0_2⟩ := bk hb1 (w.heap.size + 1 + 1) (by first | omega | (simp; done) | (simp; omega) | fail)
    go_wp2_with fail
    refine (ellin_v _ _ _ _ _ _ _ _ HP.out _).mono ?_; rintro e w2 ⟨rfl, hb2⟩; have z_w2 := hb2.size; (try simp at z_w2); obtain ⟨y_w2_0_0, c_w2_0_0, f_w2_0_0, r_w2_0_0, t_w2_0_0, p_w2_0_0⟩ := bk hb2 (w.heap.size) (by first | omega | (simp; done) | (simp; omega) | fail); obtain ⟨y_w2_0_1, c_w2_0_1, f_w2_0_1, r_w2_0_1, t_w2_0_1, p_w2_0_1⟩ := bk hb2 (w.heap.size + 1) (by first | omega | (simp; done) | (simp; omega) | fail); obtain ⟨y_w2_0_2, c_w2_0_2, f_w2_0_2, r_w2_0_2, t_w2_0_2, p_w2_0_2⟩ := bk hb2 (w.heap.size + 1 + 1) (by first | omega | (simp; done) | (simp; omega) | fail); obtain ⟨y_w2_1_0, c_w2_1_0, f_w2_1_0, r_w2_1_0, t_w2_1_0, p_w2_1_0⟩ := bk hb2 (w1.heap.size) (by first | omega | (simp; done) | (simp; omega) | fail)
    go_wp2_with fail
    refine (awake5_c _).mono ?_; rintro e w3 ⟨rfl, hb3⟩
    go_wp2
    go_ret
    exact ⟨rfl, (by repeat (first | with_reducible exact Below.refl _ _ | with_reducible exact Below_of_hid (by assumption) | with_reducible refine Below.drew ?_ | with_reducible refine below_drewN ?_ _ | (with_reducible refine Below_putRow ?_ ?hB _ _; case hB => (first | omega | (simp; done) | (simp; omega))) | (with_reducible refine Below.alloc ?_ ?hB _; case hB => (first | omega | (simp; done) | (simp; omega))) | (with_reducible refine Below.setCell ?_ ?hB _; case hB => (first | omega | (simp; done) | (simp; omega))) | (with_reducible refine Below.trans ?_ (Below.mono (by assumption) ?hB); case hB => (first | omega | (simp; done) | (simp; omega)))))⟩
  all_goals subst h0
  all_goals subst h1
  all_goals clear ho hp
  all_goals go_enter Try.func8, Try.ntmps8
  all_goals go_wp2_with fail
  all_goals (refine (growball_v _ _ _ _ _ _ _ _ _ _ _ _ HO.out _).mono ?_; rintro e w1 ⟨rfl, hb1⟩; have z_w1 := hb1.size; (try simp at z_w1); obtain ⟨y_w1_0_0, c_w1_0_0, f_w1_0_0, r_w1_0_0, t_w1_0_0, p_w1_0_0⟩ := bk hb1 (w.heap.size) (by first | omega | (simp; done) | (simp; omega) | fail); obtain ⟨y_w1_0_1, c_w1_0_1, f_w1_0_1, r_w1_0_1, t_w1_0_1, p_w1_0_1⟩ := bk hb1 (w.heap.size + 1) (by first | omega | (simp; done) | (simp; omega) | fail); obtain ⟨y_w1_0_2, c_w1_0_2, f_w1_0_2, r_w1_0_2, t_w1_0_2, p_w1_0_2⟩ := bk hb1 (w.heap.size + 1 + 1) (by first | omega | (simp; done) | (simp; omega) | fail))
  all_goals go_wp2_with fail
  all_goals (refine (ellin_v _ _ _ _ _ _ _ _ HP.out _).mono ?_; rintro e w2 ⟨rfl, hb2⟩; have z_w2 := hb2.size; (try simp at z_w2); obtain ⟨y_w2_0_0, c_w2_0_0, f_w2_0_0, r_w2_0_0, t_w2_0_0, p_w2_0_0⟩ := bk hb2 (w.heap.size) (by first | omega | (simp; done) | (simp; omega) | fail); obtain ⟨y_w2_0_1, c_w2_0_1, f_w2_0_1, r_w2_0_1, t_w2_0_1, p_w2_0_1⟩ := bk hb2 (w.heap.size + 1) (by first | omega | (simp; done) | (simp; omega) | fail); obtain ⟨y_w2_0_2, c_w2_0_2, f_w2_0_2, r_w2_0_2, t_w2_0_2, p_w2_0_2⟩ := bk hb2 (w.heap.size + 1 + 1) (by first | omega | (simp; done) | (simp; omega) | fail); obtain ⟨y_w2_1_0, c_w2_1_0, f_w2_1_0, r_w2_1_0, t_w2_1_0, p_w2_1_0⟩ := bk hb2 (w1.heap.size) (by first | omega | (simp; done) | (simp; omega) | fail))
  all_goals go_wp2_with fail
  all_goals (refine (awake5_c _).mono ?_; rintro e w3 ⟨rfl, hb3⟩)
  all_goals go_wp2
  all_goals go_ret
  all_goals exact ⟨rfl, (by repeat (first | with_reducible exact Below.refl _ _ | with_reducible exact Below_of_hid (by assumption) | with_reducible refine Below.drew ?_ | with_reducible refine below_drewN ?_ _ | (with_reducible refine Below_putRow ?_ ?hB _ _; case hB => (first | omega | (simp; done) | (simp; omega))) | (with_reducible refine Below.alloc ?_ ?hB _; case hB => (first | omega | (simp; done) | (simp; omega))) | (with_reducible refine Below.setCell ?_ ?hB _; case hB => (first | omega | (simp; done) | (simp; omega))) | (with_reducible refine Below.trans ?_ (Below.mono (by assumption) ?hB); case hB => (first | omega | (simp; done) | (simp; omega)))))⟩
end Go.Proofs.Ytgddblbpmfaahaa
