/- The walks of grow.Ball, grow.Age. -/
import Derived.Test.YtfohihjeemmedaaE4
namespace Go.Proofs.Ytfohihjeemmedaa
open Go.RowKit

theorem sum_v (x y a b d x' y' a' b' d' : Int) (o : El) (k : Int) (h : sumE ⟨x, y, a, b, d⟩ ⟨x', y', a', b', d'⟩ = (o, k)) (w : World) :
    Calls Try.prog 56 #[elC x y a b d, elC x' y' a' b' d'] w fun r w' => r = .returned (.tuple #[elV o, .int .i64 k]) ∧ Below w.heap.size w w' := by
  have := sum_c ⟨x, y, a, b, d⟩ ⟨x', y', a', b', d'⟩ w
  rw [h] at this; exact this
theorem ellball_v (x y r : Int) (x' y' a' b' d' k : Int) (h : ballE x y r = (⟨x', y', a', b', d'⟩, k)) (w : World) :
    Calls Try.prog 16 #[ptV x y, .int .i64 r] w fun e w' => e = .returned (.tuple #[elC x' y' a' b' d', .int .i64 k]) ∧ Below w.heap.size w w' := by
  have := ellball_c x y r w
  rw [h] at this; exact this

set_option maxHeartbeats 2000000 in
theorem growball_c (x y a b d r : Int) (w : World) :
    Calls Try.prog 38 #[elC x y a b d, .int .i64 r] w fun e w' => e = .returned (.tuple #[elV (growE ⟨x, y, a, b, d⟩ r).1, .int .i64 (growE ⟨x, y, a, b, d⟩ r).2]) ∧ Below w.heap.size w w' := by
  have E : growE ⟨x, y, a, b, d⟩ r = if El.may ⟨x, y, a, b, d⟩ = true ∧ 0 ≤ r ∧ r ≤ 4194304 then (if r = 0 then (⟨x, y, a, b, d⟩, 0) else sumE ⟨x, y, a, b, d⟩ (ballE 0 0 r).1) else (El.zero, 1) := rfl
  cases hm : El.may ⟨x, y, a, b, d⟩ with
  | false =>
    have HM := Lib.hid hm
    have EV : Hid (growE ⟨x, y, a, b, d⟩ r = (El.zero, 1)) := by show _ = _; rw [E, hm, if_neg]; rintro ⟨h, _⟩; cases h
    clear E hm
    go_enter Try.func38, Try.ntmps38
    go_wp2_with fail
    refine (ellmay_c _ _ _ _ _ _).mono ?_; rintro e w1 ⟨rfl, hb1⟩; rw [HM.out]; have z_w1 := hb1.size; (try simp at z_w1); obtain ⟨y_w1_0_0, c_w1_0_0, f_w1_0_0, r_w1_0_0, t_w1_0_0, p_w1_0_0⟩ := bk hb1 (w.heap.size) (by first | omega | (simp; done) | (simp; omega) | fail); obtain ⟨y_w1_0_1, c_w1_0_1, f_w1_0_1, r_w1_0_1, t_w1_0_1, p_w1_0_1⟩ := bk hb1 (w.heap.size + 1) (by first | omega | (simp; done) | (simp; omega) | fail)
    go_wp2_with fail
    exact bodyPost_row_t 5 #[.int .i64 0, .int .i64 0, .int .i64 0, .int .i64 0, .int .i64 0] (.int .i64 1) rfl rfl rfl rfl Try.underlying27 rfl (by kernel_rfl) (row_of_cells 4 _ rfl (by intro i hi; rcases i with _ | _ | _ | _ | _ | i; (go_simp); (go_simp); (go_simp); (go_simp); (go_simp); exact absurd hi (by omega))) ⟨by rw [EV.out]; rfl, (by repeat (first | with_reducible exact Below.refl _ _ | with_reducible exact Below_of_hid (by assumption) | with_reducible refine Below.drew ?_ | with_reducible refine below_drewN ?_ _ | (with_reducible refine Below_putRow ?_ ?hB _ _; case hB => (first | omega | (simp; done) | (simp; omega))) | (with_reducible refine Below.alloc ?_ ?hB _; case hB => (first | omega | (simp; done) | (simp; omega))) | (with_reducible refine Below.setCell ?_ ?hB _; case hB => (first | omega | (simp; done) | (simp; omega))) | (with_reducible refine Below.trans ?_ (Below.mono (by assumption) ?hB); case hB => (first | omega | (simp; done) | (simp; omega)))))⟩
  | true =>
    have HM := Lib.hid hm
    by_cases h1 : r < 0
    · have EV : Hid (growE ⟨x, y, a, b, d⟩ r = (El.zero, 1)) := by show _ = _; rw [E, hm, if_neg]; rintro ⟨_, h, _⟩; omega
      clear E hm
      go_enter Try.func38, Try.ntmps38
      go_wp2_with fail
      refine (ellmay_c _ _ _ _ _ _).mono ?_; rintro e w1 ⟨rfl, hb1⟩; rw [HM.out]; have z_w1 := hb1.size; (try simp at z_w1); obtain ⟨y_w1_0_0, c_w1_0_0, f_w1_0_0, r_w1_0_0, t_w1_0_0, p_w1_0_0⟩ := bk hb1 (w.heap.size) (by first | omega | (simp; done) | (simp; omega) | fail); obtain ⟨y_w1_0_1, c_w1_0_1, f_w1_0_1, r_w1_0_1, t_w1_0_1, p_w1_0_1⟩ := bk hb1 (w.heap.size + 1) (by first | omega | (simp; done) | (simp; omega) | fail)
      go_wp2_with fail
      exact bodyPost_row_t 5 #[.int .i64 0, .int .i64 0, .int .i64 0, .int .i64 0, .int .i64 0] (.int .i64 1) rfl rfl rfl rfl Try.underlying27 rfl (by kernel_rfl) (row_of_cells 4 _ rfl (by intro i hi; rcases i with _ | _ | _ | _ | _ | i; (go_simp); (go_simp); (go_simp); (go_simp); (go_simp); exact absurd hi (by omega))) ⟨by rw [EV.out]; rfl, (by repeat (first | with_reducible exact Below.refl _ _ | with_reducible exact Below_of_hid (by assumption) | with_reducible refine Below.drew ?_ | with_reducible refine below_drewN ?_ _ | (with_reducible refine Below_putRow ?_ ?hB _ _; case hB => (first | omega | (simp; done) | (simp; omega))) | (with_reducible refine Below.alloc ?_ ?hB _; case hB => (first | omega | (simp; done) | (simp; omega))) | (with_reducible refine Below.setCell ?_ ?hB _; case hB => (first | omega | (simp; done) | (simp; omega))) | (with_reducible refine Below.trans ?_ (Below.mono (by assumption) ?hB); case hB => (first | omega | (simp; done) | (simp; omega)))))⟩
    · by_cases h2 : 4194304 < r
      · have EV : Hid (growE ⟨x, y, a, b, d⟩ r = (El.zero, 1)) := by show _ = _; rw [E, hm, if_neg]; rintro ⟨_, _, h⟩; omega
        clear E hm
        go_enter Try.func38, Try.ntmps38
        go_wp2_with fail
        refine (ellmay_c _ _ _ _ _ _).mono ?_; rintro e w1 ⟨rfl, hb1⟩; rw [HM.out]; have z_w1 := hb1.size; (try simp at z_w1); obtain ⟨y_w1_0_0, c_w1_0_0, f_w1_0_0, r_w1_0_0, t_w1_0_0, p_w1_0_0⟩ := bk hb1 (w.heap.size) (by first | omega | (simp; done) | (simp; omega) | fail); obtain ⟨y_w1_0_1, c_w1_0_1, f_w1_0_1, r_w1_0_1, t_w1_0_1, p_w1_0_1⟩ := bk hb1 (w.heap.size + 1) (by first | omega | (simp; done) | (simp; omega) | fail)
        go_wp2_with fail
        exact bodyPost_row_t 5 #[.int .i64 0, .int .i64 0, .int .i64 0, .int .i64 0, .int .i64 0] (.int .i64 1) rfl rfl rfl rfl Try.underlying27 rfl (by kernel_rfl) (row_of_cells 4 _ rfl (by intro i hi; rcases i with _ | _ | _ | _ | _ | i; (go_simp); (go_simp); (go_simp); (go_simp); (go_simp); exact absurd hi (by omega))) ⟨by rw [EV.out]; rfl, (by repeat (first | with_reducible exact Below.refl _ _ | with_reducible exact Below_of_hid (by assumption) | with_reducible refine Below.drew ?_ | with_reducible refine below_drewN ?_ _ | (with_reducible refine Below_putRow ?_ ?hB _ _; case hB => (first | omega | (simp; done) | (simp; omega))) | (with_reducible refine Below.alloc ?_ ?hB _; case hB => (first | omega | (simp; done) | (simp; omega))) | (with_reducible refine Below.setCell ?_ ?hB _; case hB => (first | omega | (simp; done) | (simp; omega))) | (with_reducible refine Below.trans ?_ (Below.mono (by assumption) ?hB); case hB => (first | omega | (simp; done) | (simp; omega)))))⟩
      · rw [hm, if_pos ⟨rfl, by omega, by omega⟩] at E
        by_cases h3 : r = 0
        · subst h3
          have EV : Hid (growE ⟨x, y, a, b, d⟩ 0 = (⟨x, y, a, b, d⟩, 0)) := by show _ = _; rw [E, if_pos rfl]
          clear E hm h1 h2
          go_enter Try.func38, Try.ntmps38
          go_wp2_with fail
          refine (ellmay_c _ _ _ _ _ _).mono ?_; rintro e w1 ⟨rfl, hb1⟩; rw [HM.out]; have z_w1 := hb1.size; (try simp at z_w1); obtain ⟨y_w1_0_0, c_w1_0_0, f_w1_0_0, r_w1_0_0, t_w1_0_0, p_w1_0_0⟩ := bk hb1 (w.heap.size) (by first | omega | (simp; done) | (simp; omega) | fail); obtain ⟨y_w1_0_1, c_w1_0_1, f_w1_0_1, r_w1_0_1, t_w1_0_1, p_w1_0_1⟩ := bk hb1 (w.heap.size + 1) (by first | omega | (simp; done) | (simp; omega) | fail)
          go_wp2_with fail
          exact bodyPost_row_t 5 #[.int .i64 x, .int .i64 y, .int .i64 a, .int .i64 b, .int .i64 d] (.int .i64 0) rfl rfl rfl rfl Try.underlying27 rfl (by kernel_rfl) (row_of_cells 4 _ rfl (by intro i hi; rcases i with _ | _ | _ | _ | _ | i; (go_simp); (go_simp); (go_simp); (go_simp); (go_simp); exact absurd hi (by omega))) ⟨by rw [EV.out], (by repeat (first | with_reducible exact Below.refl _ _ | with_reducible exact Below_of_hid (by assumption) | with_reducible refine Below.drew ?_ | with_reducible refine below_drewN ?_ _ | (with_reducible refine Below_putRow ?_ ?hB _ _; case hB => (first | omega | (simp; done) | (simp; omega))) | (with_reducible refine Below.alloc ?_ ?hB _; case hB => (first | omega | (simp; done) | (simp; omega))) | (with_reducible refine Below.setCell ?_ ?hB _; case hB => (first | omega | (simp; done) | (simp; omega))) | (with_reducible refine Below.trans ?_ (Below.mono (by assumption) ?hB); case hB => (first | omega | (simp; done) | (simp; omega)))))⟩
        · rw [if_neg h3] at E
          have hb : ballE 0 0 r = (⟨0, 0, r * r, 0, r * r⟩, 0) := by unfold ballE; rw [if_pos ⟨by decide, by omega, by omega⟩]
          rw [hb] at E
          obtain ⟨s, hs⟩ : ∃ s, s = r * r := ⟨_, rfl⟩
          simp only [← hs] at hb E
          obtain ⟨⟨ox, oy, oa, ob, od⟩, k, ho⟩ : ∃ o k, sumE ⟨x, y, a, b, d⟩ ⟨0, 0, s, 0, s⟩ = (o, k) := ⟨_, _, rfl⟩
          have EV : Hid (growE ⟨x, y, a, b, d⟩ r = (⟨ox, oy, oa, ob, od⟩, k)) := by show _ = _; rw [E, ho]
          have HB := Lib.hid hb
          have HO := Lib.hid ho
          clear E hm hb ho hs
          go_enter Try.func38, Try.ntmps38
          go_wp2_with fail
          refine (ellmay_c _ _ _ _ _ _).mono ?_; rintro e w1 ⟨rfl, hb1⟩; rw [HM.out]; have z_w1 := hb1.size; (try simp at z_w1); obtain ⟨y_w1_0_0, c_w1_0_0, f_w1_0_0, r_w1_0_0, t_w1_0_0, p_w1_0_0⟩ := bk hb1 (w.heap.size) (by first | omega | (simp; done) | (simp; omega) | fail); obtain ⟨y_w1_0_1, c_w1_0_1, f_w1_0_1, r_w1_0_1, t_w1_0_1, p_w1_0_1⟩ := bk hb1 (w.heap.size + 1) (by first | omega | (simp; done) | (simp; omega) | fail)
          go_wp2_with fail
          refine (ellball_v _ _ _ _ _ _ _ _ _ HB.out _).mono ?_; rintro e w2 ⟨rfl, hb2⟩; have z_w2 := hb2.size; (try simp at z_w2); obtain ⟨y_w2_0_0, c_w2_0_0, f_w2_0_0, r_w2_0_0, t_w2_0_0, p_w2_0_0⟩ := bk hb2 (w.heap.size) (by first | omega | (simp; done) | (simp; omega) | fail); obtain ⟨y_w2_0_1, c_w2_0_1, f_w2_0_1, r_w2_0_1, t_w2_0_1, p_w2_0_1⟩ := bk hb2 (w.heap.size + 1) (by first | omega | (simp; done) | (simp; omega) | fail)
          go_wp2_with fail
          refine (sum_v _ _ _ _ _ _ _ _ _ _ _ _ HO.out _).mono ?_; rintro e w3 ⟨rfl, hb3⟩; have z_w3 := hb3.size; (try simp at z_w3); obtain ⟨y_w3_0_0, c_w3_0_0, f_w3_0_0, r_w3_0_0, t_w3_0_0, p_w3_0_0⟩ := bk hb3 (w.heap.size) (by first | omega | (simp; done) | (simp; omega) | fail); obtain ⟨y_w3_0_1, c_w3_0_1, f_w3_0_1, r_w3_0_1, t_w3_0_1, p_w3_0_1⟩ := bk hb3 (w.heap.size + 1) (by first | omega | (simp; done) | (simp; omega) | fail)
          go_wp2_with fail
          exact bodyPost_row_t 5 #[.int .i64 ox, .int .i64 oy, .int .i64 oa, .int .i64 ob, .int .i64 od] (.int .i64 k) rfl rfl rfl rfl Try.underlying27 rfl (by kernel_rfl) (row_of_cells 4 _ rfl (by intro i hi; rcases i with _ | _ | _ | _ | _ | i; (go_simp); (go_simp); (go_simp); (go_simp); (go_simp); exact absurd hi (by omega))) ⟨by rw [EV.out], (by repeat (first | with_reducible exact Below.refl _ _ | with_reducible exact Below_of_hid (by assumption) | with_reducible refine Below.drew ?_ | with_reducible refine below_drewN ?_ _ | (with_reducible refine Below_putRow ?_ ?hB _ _; case hB => (first | omega | (simp; done) | (simp; omega))) | (with_reducible refine Below.alloc ?_ ?hB _; case hB => (first | omega | (simp; done) | (simp; omega))) | (with_reducible refine Below.setCell ?_ ?hB _; case hB => (first | omega | (simp; done) | (simp; omega))) | (with_reducible refine Below.trans ?_ (Below.mono (by assumption) ?hB); case hB => (first | omega | (simp; done) | (simp; omega)))))⟩
theorem growball_v (x y a b d r x' y' a' b' d' k : Int) (h : growE ⟨x, y, a, b, d⟩ r = (⟨x', y', a', b', d'⟩, k)) (w : World) :
    Calls Try.prog 38 #[elC x y a b d, .int .i64 r] w fun e w' => e = .returned (.tuple #[elC x' y' a' b' d', .int .i64 k]) ∧ Below w.heap.size w w' := by
  have := growball_c x y a b d r w
  rw [h] at this; exact this

end Go.Proofs.Ytfohihjeemmedaa
