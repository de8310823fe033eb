/- The walk of MatHolds. -/
import Derived.Test.YtcmgcndgdfblcaaL0
import Derived.Test.YtcmgcndgdfblcaaLr
import Derived.BigQuiet
import Derived.Lib.QuietBelow
namespace Go.Proofs.Ytcmgcndgdfblcaa
open Go.RowKit

theorem holds_q (a b d x y : Int) (q : Bool) (ha : I64 a) (hb : I64 b) (hd : I64 d) (hx : I64 x) (hy : I64 y) (hq : holdsB a b d x y = q) (w : World) :
    Calls Try.prog 12 #[symV a b d, ptV x y] w fun e w' => e = .returned (.bool q) ∧ Below w.heap.size w w' := by
  subst hq; exact holds_c a b d x y ha hb hd hx hy w

theorem holds_t (a b d x y : Int) (ha : I64 a) (hb : I64 b) (hd : I64 d) (h : I64 x ∧ I64 y ∧ holdsB a b d x y = true) (w : World) :
    Calls Try.prog 12 #[symV a b d, ptV x y] w fun e w' => e = .returned (.bool true) ∧ Below w.heap.size w w' :=
  holds_q a b d x y true ha hb hd h.1 h.2.1 h.2.2 w

set_option maxRecDepth 100000 in
set_option maxHeartbeats 4000000 in
theorem matHolds_c1 (a b d a' b' d' x y k : Int) (ha : I64 a) (hb : I64 b) (hd : I64 d) (h : (-1048576 ≤ x ∧ x ≤ 1048576 ∧ -1048576 ≤ y ∧ y ≤ 1048576) → holdsB a b d x y = false) (w : World) :
    Calls Try.prog 4 #[symV a b d, symV a' b' d', ptV x y, .int .i64 k] w fun e w' => e = .returned (.bool true) ∧ Below w.heap.size w w' := by
  by_cases h1 : x < -1048576
  · clear h ha hb hd
    go_enter Try.func4, Try.ntmps4
    go_wp2_with fail
    refine (awake_c _).mono ?_; rintro e w4 ⟨rfl, hb4⟩; have z_w4 := hb4.size; (try simp at z_w4); obtain ⟨y_w4_0_0, c_w4_0_0, f_w4_0_0, r_w4_0_0, t_w4_0_0, p_w4_0_0⟩ := bk hb4 (w.heap.size) (by first | omega | (simp; done) | (simp; omega) | fail); obtain ⟨y_w4_0_1, c_w4_0_1, f_w4_0_1, r_w4_0_1, t_w4_0_1, p_w4_0_1⟩ := bk hb4 (w.heap.size + 1) (by first | omega | (simp; done) | (simp; omega) | fail); obtain ⟨y_w4_0_2, c_w4_0_2, f_w4_0_2, r_w4_0_2, t_w4_0_2, p_w4_0_2⟩ := bk hb4 (w.heap.size + 1 + 1) (by first | omega | (simp; done) | (simp; omega) | fail)
    go_wp2
    go_ret
    exact ⟨rfl, (by repeat (first | exact Below.refl _ _ | exact Below_of_hid (by assumption) | refine Below.drew ?_ | refine below_drewN ?_ _ | refine Below_putRow ?_ (by first | omega | (simp; done) | (simp; omega) | fail) _ _ | refine Below.alloc ?_ (by first | omega | (simp; done) | (simp; omega) | fail) _ | refine Below.setCell ?_ (by first | omega | (simp; done) | (simp; omega) | fail) _ | refine Below.trans ?_ (Below.mono (by assumption) (by first | omega | (simp; done) | (simp; omega) | fail))))⟩
  · by_cases h2 : 1048576 < x
    · clear h ha hb hd
      go_enter Try.func4, Try.ntmps4
      go_wp2_with fail
      refine (awake_c _).mono ?_; rintro e w4 ⟨rfl, hb4⟩; have z_w4 := hb4.size; (try simp at z_w4); obtain ⟨y_w4_0_0, c_w4_0_0, f_w4_0_0, r_w4_0_0, t_w4_0_0, p_w4_0_0⟩ := bk hb4 (w.heap.size) (by first | omega | (simp; done) | (simp; omega) | fail); obtain ⟨y_w4_0_1, c_w4_0_1, f_w4_0_1, r_w4_0_1, t_w4_0_1, p_w4_0_1⟩ := bk hb4 (w.heap.size + 1) (by first | omega | (simp; done) | (simp; omega) | fail); obtain ⟨y_w4_0_2, c_w4_0_2, f_w4_0_2, r_w4_0_2, t_w4_0_2, p_w4_0_2⟩ := bk hb4 (w.heap.size + 1 + 1) (by first | omega | (simp; done) | (simp; omega) | fail)
      go_wp2
      go_ret
      exact ⟨rfl, (by repeat (first | exact Below.refl _ _ | exact Below_of_hid (by assumption) | refine Below.drew ?_ | refine below_drewN ?_ _ | refine Below_putRow ?_ (by first | omega | (simp; done) | (simp; omega) | fail) _ _ | refine Below.alloc ?_ (by first | omega | (simp; done) | (simp; omega) | fail) _ | refine Below.setCell ?_ (by first | omega | (simp; done) | (simp; omega) | fail) _ | refine Below.trans ?_ (Below.mono (by assumption) (by first | omega | (simp; done) | (simp; omega) | fail))))⟩
    · by_cases h3 : y < -1048576
      · clear h ha hb hd
        go_enter Try.func4, Try.ntmps4
        go_wp2_with fail
        refine (awake_c _).mono ?_; rintro e w4 ⟨rfl, hb4⟩; have z_w4 := hb4.size; (try simp at z_w4); obtain ⟨y_w4_0_0, c_w4_0_0, f_w4_0_0, r_w4_0_0, t_w4_0_0, p_w4_0_0⟩ := bk hb4 (w.heap.size) (by first | omega | (simp; done) | (simp; omega) | fail); obtain ⟨y_w4_0_1, c_w4_0_1, f_w4_0_1, r_w4_0_1, t_w4_0_1, p_w4_0_1⟩ := bk hb4 (w.heap.size + 1) (by first | omega | (simp; done) | (simp; omega) | fail); obtain ⟨y_w4_0_2, c_w4_0_2, f_w4_0_2, r_w4_0_2, t_w4_0_2, p_w4_0_2⟩ := bk hb4 (w.heap.size + 1 + 1) (by first | omega | (simp; done) | (simp; omega) | fail)
        go_wp2
        go_ret
        exact ⟨rfl, (by repeat (first | exact Below.refl _ _ | exact Below_of_hid (by assumption) | refine Below.drew ?_ | refine below_drewN ?_ _ | refine Below_putRow ?_ (by first | omega | (simp; done) | (simp; omega) | fail) _ _ | refine Below.alloc ?_ (by first | omega | (simp; done) | (simp; omega) | fail) _ | refine Below.setCell ?_ (by first | omega | (simp; done) | (simp; omega) | fail) _ | refine Below.trans ?_ (Below.mono (by assumption) (by first | omega | (simp; done) | (simp; omega) | fail))))⟩
      · by_cases h4 : 1048576 < y
        · clear h ha hb hd
          go_enter Try.func4, Try.ntmps4
          go_wp2_with fail
          refine (awake_c _).mono ?_; rintro e w4 ⟨rfl, hb4⟩; have z_w4 := hb4.size; (try simp at z_w4); obtain ⟨y_w4_0_0, c_w4_0_0, f_w4_0_0, r_w4_0_0, t_w4_0_0, p_w4_0_0⟩ := bk hb4 (w.heap.size) (by first | omega | (simp; done) | (simp; omega) | fail); obtain ⟨y_w4_0_1, c_w4_0_1, f_w4_0_1, r_w4_0_1, t_w4_0_1, p_w4_0_1⟩ := bk hb4 (w.heap.size + 1) (by first | omega | (simp; done) | (simp; omega) | fail); obtain ⟨y_w4_0_2, c_w4_0_2, f_w4_0_2, r_w4_0_2, t_w4_0_2, p_w4_0_2⟩ := bk hb4 (w.heap.size + 1 + 1) (by first | omega | (simp; done) | (simp; omega) | fail)
          go_wp2
          go_ret
          exact ⟨rfl, (by repeat (first | exact Below.refl _ _ | exact Below_of_hid (by assumption) | refine Below.drew ?_ | refine below_drewN ?_ _ | refine Below_putRow ?_ (by first | omega | (simp; done) | (simp; omega) | fail) _ _ | refine Below.alloc ?_ (by first | omega | (simp; done) | (simp; omega) | fail) _ | refine Below.setCell ?_ (by first | omega | (simp; done) | (simp; omega) | fail) _ | refine Below.trans ?_ (Below.mono (by assumption) (by first | omega | (simp; done) | (simp; omega) | fail))))⟩
        · have h' := Lib.hid (h ⟨by omega, by omega, by omega, by omega⟩)
          have HA := Lib.hid ha
          have HB := Lib.hid hb
          have HD := Lib.hid hd
          have HX : Hid (I64 x) := show I64 _ from ⟨by omega, by omega⟩
          have HY : Hid (I64 y) := show I64 _ from ⟨by omega, by omega⟩
          clear h ha hb hd
          go_enter Try.func4, Try.ntmps4
          go_wp2_with (first
            | (go_at_call 12; refine (holds_q a b d x y _ HA.out HB.out HD.out HX.out HY.out h'.out _).mono ?_; rintro e w3 ⟨rfl, hb3⟩; have z_w3 := hb3.size; (try simp at z_w3); obtain ⟨y_w3_0_0, c_w3_0_0, f_w3_0_0, r_w3_0_0, t_w3_0_0, p_w3_0_0⟩ := bk hb3 (w.heap.size) (by first | omega | (simp; done) | (simp; omega) | fail); obtain ⟨y_w3_0_1, c_w3_0_1, f_w3_0_1, r_w3_0_1, t_w3_0_1, p_w3_0_1⟩ := bk hb3 (w.heap.size + 1) (by first | omega | (simp; done) | (simp; omega) | fail); obtain ⟨y_w3_0_2, c_w3_0_2, f_w3_0_2, r_w3_0_2, t_w3_0_2, p_w3_0_2⟩ := bk hb3 (w.heap.size + 1 + 1) (by first | omega | (simp; done) | (simp; omega) | fail))
            | (go_at_call 11; refine (awake_c _).mono ?_; rintro e w4 ⟨rfl, hb4⟩; have z_w4 := hb4.size; (try simp at z_w4); obtain ⟨y_w4_0_0, c_w4_0_0, f_w4_0_0, r_w4_0_0, t_w4_0_0, p_w4_0_0⟩ := bk hb4 (w.heap.size) (by first | omega | (simp; done) | (simp; omega) | fail); obtain ⟨y_w4_0_1, c_w4_0_1, f_w4_0_1, r_w4_0_1, t_w4_0_1, p_w4_0_1⟩ := bk hb4 (w.heap.size + 1) (by first | omega | (simp; done) | (simp; omega) | fail); obtain ⟨y_w4_0_2, c_w4_0_2, f_w4_0_2, r_w4_0_2, t_w4_0_2, p_w4_0_2⟩ := bk hb4 (w.heap.size + 1 + 1) (by first | omega | (simp; done) | (simp; omega) | fail)))
          go_ret
          exact ⟨rfl, (by repeat (first | exact Below.refl _ _ | exact Below_of_hid (by assumption) | refine Below.drew ?_ | refine below_drewN ?_ _ | refine Below_putRow ?_ (by first | omega | (simp; done) | (simp; omega) | fail) _ _ | refine Below.alloc ?_ (by first | omega | (simp; done) | (simp; omega) | fail) _ | refine Below.setCell ?_ (by first | omega | (simp; done) | (simp; omega) | fail) _ | refine Below.trans ?_ (Below.mono (by assumption) (by first | omega | (simp; done) | (simp; omega) | fail))))⟩

theorem below_of_regrown {w w' : World} (h : ∃ p : Regrown, w' = Go.Sort.grow (redrawn w p.d) p.os) : Below w.heap.size w w' := by
  obtain ⟨⟨d, os⟩, rfl⟩ := h; exact below_regrown w d os
theorem wrap64_of (x : Int) : wrap64 x = (x + 9223372036854775808) % 18446744073709551616 - 9223372036854775808 := by unfold wrap64; rfl
theorem k_range (k : Int) : 1 ≤ wrap64 (wrap64 ((IntKind.u64.wrap k).tmod 5) + 1) ∧ wrap64 (wrap64 ((IntKind.u64.wrap k).tmod 5) + 1) ≤ 5 := by
  have h0 : 0 ≤ IntKind.u64.wrap k := by rw [IntKind.wrap_u64]; omega
  have h1 := Int.tmod_lt_of_pos (IntKind.u64.wrap k) (show (0 : Int) < 5 by decide)
  have h2 := Int.tmod_nonneg 5 h0
  simp only [wrap64_of]
  omega

set_option maxRecDepth 100000 in
set_option maxHeartbeats 4000000 in
theorem matHolds_a (a b d a' b' d' x y k K X1 Y1 XQ YQ : Int) (HA : Hid (I64 a)) (HB : Hid (I64 b)) (HD : Hid (I64 d)) (HA' : Hid (I64 a')) (HB' : Hid (I64 b')) (HD' : Hid (I64 d')) (HX : Hid (I64 x)) (HY : Hid (I64 y)) (HX1 : Hid (I64 X1)) (HY1 : Hid (I64 Y1)) (h1 : ¬ x < -1048576) (h2 : ¬ 1048576 < x) (h3 : ¬ y < -1048576) (h4 : ¬ 1048576 < y)
    (hK : wrap64 (wrap64 ((IntKind.u64.wrap k).tmod 5) + 1) = K) (hK0 : ¬ K = 0) (n1 : IntKind.i64.wrap (-x) = X1) (n2 : IntKind.i64.wrap (-y) = Y1) (HT : Hid (holdsB a b d x y = true)) (HT1 : Hid (holdsB a b d X1 Y1 = true)) (HT0 : Hid (holdsB a b d 0 0 = true)) (HL : Hid (leastB a' b' d' a b d = true → holdsB a' b' d' x y = true)) (hr1 : ¬ x.tmod K = 0) (hd1 : (x.tmod K == 0) = false) (w : World) :
    Calls Try.prog 4 #[symV a b d, symV a' b' d', ptV x y, .int .i64 k] w fun e w' => e = .returned (.bool true) ∧ Below w.heap.size w w' := by
  have T0 : Hid (I64 0 ∧ I64 0 ∧ holdsB a b d 0 0 = true) := ⟨⟨by decide, by decide⟩, ⟨by decide, by decide⟩, HT0.out⟩
  have T1 : Hid (I64 X1 ∧ I64 Y1 ∧ holdsB a b d X1 Y1 = true) := ⟨HX1.out, HY1.out, HT1.out⟩
  go_enter Try.func4, Try.ntmps4
  go_wp2_with (first
    | (go_at_call 12; refine (holds_q a b d x y _ HA.out HB.out HD.out HX.out HY.out HT.out _).mono ?_; rintro e w3 ⟨rfl, hb3⟩; have z_w3 := hb3.size; (try simp at z_w3); obtain ⟨y_w3_0_0, c_w3_0_0, f_w3_0_0, r_w3_0_0, t_w3_0_0, p_w3_0_0⟩ := bk hb3 (w.heap.size) (by first | omega | (simp; done) | (simp; omega) | fail); obtain ⟨y_w3_0_1, c_w3_0_1, f_w3_0_1, r_w3_0_1, t_w3_0_1, p_w3_0_1⟩ := bk hb3 (w.heap.size + 1) (by first | omega | (simp; done) | (simp; omega) | fail); obtain ⟨y_w3_0_2, c_w3_0_2, f_w3_0_2, r_w3_0_2, t_w3_0_2, p_w3_0_2⟩ := bk hb3 (w.heap.size + 1 + 1) (by first | omega | (simp; done) | (simp; omega) | fail)))
  have c0 : w3.cell? ⟨w.heap.size, 0, none⟩ = some (.int .i64 a) := (by go_simp)
  have c1 : w3.cell? ⟨w.heap.size, 1, none⟩ = some (.int .i64 b) := (by go_simp)
  have c2 : w3.cell? ⟨w.heap.size, 2, none⟩ = some (.int .i64 d) := (by go_simp)
  have c3 : w3.cell? ⟨w.heap.size + 1 + 1, 0, none⟩ = some (.int .i64 x) := (by go_simp)
  have c4 : w3.cell? ⟨w.heap.size + 1 + 1, 1, none⟩ = some (.int .i64 y) := (by go_simp)
  replace c0 := cell_regrown c0
  replace c1 := cell_regrown c1
  replace c2 := cell_regrown c2
  replace c3 := cell_regrown c3
  replace c4 := cell_regrown c4
  refine wp_region_quiet_below (by kernel_rfl) (by kernel_rfl) ?_
  repeat (go_big_quiet_step (exact Calls.regrown_of (holds_t a b d _ _ HA.out HB.out HD.out (by first | with_reducible exact T1.out | with_reducible exact T0.out) _)))
  refine wpQuiet_nil ?_
  intro wq hwq
  have hbq := below_of_regrown hwq
  clear hwq c0 c1 c2 c3 c4
  have z_wq := hbq.size; (try simp at z_wq); obtain ⟨y_wq_0_0, c_wq_0_0, f_wq_0_0, r_wq_0_0, t_wq_0_0, p_wq_0_0⟩ := bk hbq (w.heap.size) (by first | omega | (simp; done) | (simp; omega) | fail); obtain ⟨y_wq_0_1, c_wq_0_1, f_wq_0_1, r_wq_0_1, t_wq_0_1, p_wq_0_1⟩ := bk hbq (w.heap.size + 1) (by first | omega | (simp; done) | (simp; omega) | fail); obtain ⟨y_wq_0_2, c_wq_0_2, f_wq_0_2, r_wq_0_2, t_wq_0_2, p_wq_0_2⟩ := bk hbq (w.heap.size + 1 + 1) (by first | omega | (simp; done) | (simp; omega) | fail)
  all_goals (cases hl : leastB a' b' d' a b d)
  all_goals go_wp2_with (first
    | (go_at_call 9; refine (least_c a' b' d' a b d _).mono ?_; rintro e w7 ⟨rfl, hb7⟩; have z_w7 := hb7.size; (try simp at z_w7); obtain ⟨y_w7_0_0, c_w7_0_0, f_w7_0_0, r_w7_0_0, t_w7_0_0, p_w7_0_0⟩ := bk hb7 (w.heap.size) (by first | omega | (simp; done) | (simp; omega) | fail); obtain ⟨y_w7_0_1, c_w7_0_1, f_w7_0_1, r_w7_0_1, t_w7_0_1, p_w7_0_1⟩ := bk hb7 (w.heap.size + 1) (by first | omega | (simp; done) | (simp; omega) | fail); obtain ⟨y_w7_0_2, c_w7_0_2, f_w7_0_2, r_w7_0_2, t_w7_0_2, p_w7_0_2⟩ := bk hb7 (w.heap.size + 1 + 1) (by first | omega | (simp; done) | (simp; omega) | fail))
    | (go_at_call 12; refine (holds_q a' b' d' x y _ HA'.out HB'.out HD'.out HX.out HY.out (HL.out hl) _).mono ?_; rintro e w8 ⟨rfl, hb8⟩; have z_w8 := hb8.size; (try simp at z_w8); obtain ⟨y_w8_0_0, c_w8_0_0, f_w8_0_0, r_w8_0_0, t_w8_0_0, p_w8_0_0⟩ := bk hb8 (w.heap.size) (by first | omega | (simp; done) | (simp; omega) | fail); obtain ⟨y_w8_0_1, c_w8_0_1, f_w8_0_1, r_w8_0_1, t_w8_0_1, p_w8_0_1⟩ := bk hb8 (w.heap.size + 1) (by first | omega | (simp; done) | (simp; omega) | fail); obtain ⟨y_w8_0_2, c_w8_0_2, f_w8_0_2, r_w8_0_2, t_w8_0_2, p_w8_0_2⟩ := bk hb8 (w.heap.size + 1 + 1) (by first | omega | (simp; done) | (simp; omega) | fail))
    | (go_at_call 11; refine (awake_c _).mono ?_; rintro e w9 ⟨rfl, hb9⟩; have z_w9 := hb9.size; (try simp at z_w9); obtain ⟨y_w9_0_0, c_w9_0_0, f_w9_0_0, r_w9_0_0, t_w9_0_0, p_w9_0_0⟩ := bk hb9 (w.heap.size) (by first | omega | (simp; done) | (simp; omega) | fail); obtain ⟨y_w9_0_1, c_w9_0_1, f_w9_0_1, r_w9_0_1, t_w9_0_1, p_w9_0_1⟩ := bk hb9 (w.heap.size + 1) (by first | omega | (simp; done) | (simp; omega) | fail); obtain ⟨y_w9_0_2, c_w9_0_2, f_w9_0_2, r_w9_0_2, t_w9_0_2, p_w9_0_2⟩ := bk hb9 (w.heap.size + 1 + 1) (by first | omega | (simp; done) | (simp; omega) | fail)))
  all_goals go_ret
  all_goals exact ⟨rfl, (by repeat (first | exact Below.refl _ _ | exact Below_of_hid (by assumption) | refine Below.drew ?_ | refine below_drewN ?_ _ | refine Below_putRow ?_ (by first | omega | (simp; done) | (simp; omega) | fail) _ _ | refine Below.alloc ?_ (by first | omega | (simp; done) | (simp; omega) | fail) _ | refine Below.setCell ?_ (by first | omega | (simp; done) | (simp; omega) | fail) _ | refine Below.trans ?_ (Below.mono (by assumption) (by first | omega | (simp; done) | (simp; omega) | fail))))⟩

set_option maxRecDepth 100000 in
set_option maxHeartbeats 4000000 in
theorem matHolds_b (a b d a' b' d' x y k K X1 Y1 XQ YQ : Int) (HA : Hid (I64 a)) (HB : Hid (I64 b)) (HD : Hid (I64 d)) (HA' : Hid (I64 a')) (HB' : Hid (I64 b')) (HD' : Hid (I64 d')) (HX : Hid (I64 x)) (HY : Hid (I64 y)) (HX1 : Hid (I64 X1)) (HY1 : Hid (I64 Y1)) (h1 : ¬ x < -1048576) (h2 : ¬ 1048576 < x) (h3 : ¬ y < -1048576) (h4 : ¬ 1048576 < y)
    (hK : wrap64 (wrap64 ((IntKind.u64.wrap k).tmod 5) + 1) = K) (hK0 : ¬ K = 0) (n1 : IntKind.i64.wrap (-x) = X1) (n2 : IntKind.i64.wrap (-y) = Y1) (HT : Hid (holdsB a b d x y = true)) (HT1 : Hid (holdsB a b d X1 Y1 = true)) (HT0 : Hid (holdsB a b d 0 0 = true)) (HL : Hid (leastB a' b' d' a b d = true → holdsB a' b' d' x y = true)) (hr1 : x.tmod K = 0) (hd1 : (x.tmod K == 0) = true) (hr2 : ¬ y.tmod K = 0) (hd2 : (y.tmod K == 0) = false) (w : World) :
    Calls Try.prog 4 #[symV a b d, symV a' b' d', ptV x y, .int .i64 k] w fun e w' => e = .returned (.bool true) ∧ Below w.heap.size w w' := by
  have T0 : Hid (I64 0 ∧ I64 0 ∧ holdsB a b d 0 0 = true) := ⟨⟨by decide, by decide⟩, ⟨by decide, by decide⟩, HT0.out⟩
  have T1 : Hid (I64 X1 ∧ I64 Y1 ∧ holdsB a b d X1 Y1 = true) := ⟨HX1.out, HY1.out, HT1.out⟩
  go_enter Try.func4, Try.ntmps4
  go_wp2_with (first
    | (go_at_call 12; refine (holds_q a b d x y _ HA.out HB.out HD.out HX.out HY.out HT.out _).mono ?_; rintro e w3 ⟨rfl, hb3⟩; have z_w3 := hb3.size; (try simp at z_w3); obtain ⟨y_w3_0_0, c_w3_0_0, f_w3_0_0, r_w3_0_0, t_w3_0_0, p_w3_0_0⟩ := bk hb3 (w.heap.size) (by first | omega | (simp; done) | (simp; omega) | fail); obtain ⟨y_w3_0_1, c_w3_0_1, f_w3_0_1, r_w3_0_1, t_w3_0_1, p_w3_0_1⟩ := bk hb3 (w.heap.size + 1) (by first | omega | (simp; done) | (simp; omega) | fail); obtain ⟨y_w3_0_2, c_w3_0_2, f_w3_0_2, r_w3_0_2, t_w3_0_2, p_w3_0_2⟩ := bk hb3 (w.heap.size + 1 + 1) (by first | omega | (simp; done) | (simp; omega) | fail)))
  have c0 : w3.cell? ⟨w.heap.size, 0, none⟩ = some (.int .i64 a) := (by go_simp)
  have c1 : w3.cell? ⟨w.heap.size, 1, none⟩ = some (.int .i64 b) := (by go_simp)
  have c2 : w3.cell? ⟨w.heap.size, 2, none⟩ = some (.int .i64 d) := (by go_simp)
  have c3 : w3.cell? ⟨w.heap.size + 1 + 1, 0, none⟩ = some (.int .i64 x) := (by go_simp)
  have c4 : w3.cell? ⟨w.heap.size + 1 + 1, 1, none⟩ = some (.int .i64 y) := (by go_simp)
  replace c0 := cell_regrown c0
  replace c1 := cell_regrown c1
  replace c2 := cell_regrown c2
  replace c3 := cell_regrown c3
  replace c4 := cell_regrown c4
  refine wp_region_quiet_below (by kernel_rfl) (by kernel_rfl) ?_
  repeat (go_big_quiet_step (exact Calls.regrown_of (holds_t a b d _ _ HA.out HB.out HD.out (by first | with_reducible exact T1.out | with_reducible exact T0.out) _)))
  refine wpQuiet_nil ?_
  intro wq hwq
  have hbq := below_of_regrown hwq
  clear hwq c0 c1 c2 c3 c4
  have z_wq := hbq.size; (try simp at z_wq); obtain ⟨y_wq_0_0, c_wq_0_0, f_wq_0_0, r_wq_0_0, t_wq_0_0, p_wq_0_0⟩ := bk hbq (w.heap.size) (by first | omega | (simp; done) | (simp; omega) | fail); obtain ⟨y_wq_0_1, c_wq_0_1, f_wq_0_1, r_wq_0_1, t_wq_0_1, p_wq_0_1⟩ := bk hbq (w.heap.size + 1) (by first | omega | (simp; done) | (simp; omega) | fail); obtain ⟨y_wq_0_2, c_wq_0_2, f_wq_0_2, r_wq_0_2, t_wq_0_2, p_wq_0_2⟩ := bk hbq (w.heap.size + 1 + 1) (by first | omega | (simp; done) | (simp; omega) | fail)
  all_goals (cases hl : leastB a' b' d' a b d)
  all_goals go_wp2_with (first
    | (go_at_call 9; refine (least_c a' b' d' a b d _).mono ?_; rintro e w7 ⟨rfl, hb7⟩; have z_w7 := hb7.size; (try simp at z_w7); obtain ⟨y_w7_0_0, c_w7_0_0, f_w7_0_0, r_w7_0_0, t_w7_0_0, p_w7_0_0⟩ := bk hb7 (w.heap.size) (by first | omega | (simp; done) | (simp; omega) | fail); obtain ⟨y_w7_0_1, c_w7_0_1, f_w7_0_1, r_w7_0_1, t_w7_0_1, p_w7_0_1⟩ := bk hb7 (w.heap.size + 1) (by first | omega | (simp; done) | (simp; omega) | fail); obtain ⟨y_w7_0_2, c_w7_0_2, f_w7_0_2, r_w7_0_2, t_w7_0_2, p_w7_0_2⟩ := bk hb7 (w.heap.size + 1 + 1) (by first | omega | (simp; done) | (simp; omega) | fail))
    | (go_at_call 12; refine (holds_q a' b' d' x y _ HA'.out HB'.out HD'.out HX.out HY.out (HL.out hl) _).mono ?_; rintro e w8 ⟨rfl, hb8⟩; have z_w8 := hb8.size; (try simp at z_w8); obtain ⟨y_w8_0_0, c_w8_0_0, f_w8_0_0, r_w8_0_0, t_w8_0_0, p_w8_0_0⟩ := bk hb8 (w.heap.size) (by first | omega | (simp; done) | (simp; omega) | fail); obtain ⟨y_w8_0_1, c_w8_0_1, f_w8_0_1, r_w8_0_1, t_w8_0_1, p_w8_0_1⟩ := bk hb8 (w.heap.size + 1) (by first | omega | (simp; done) | (simp; omega) | fail); obtain ⟨y_w8_0_2, c_w8_0_2, f_w8_0_2, r_w8_0_2, t_w8_0_2, p_w8_0_2⟩ := bk hb8 (w.heap.size + 1 + 1) (by first | omega | (simp; done) | (simp; omega) | fail))
    | (go_at_call 11; refine (awake_c _).mono ?_; rintro e w9 ⟨rfl, hb9⟩; have z_w9 := hb9.size; (try simp at z_w9); obtain ⟨y_w9_0_0, c_w9_0_0, f_w9_0_0, r_w9_0_0, t_w9_0_0, p_w9_0_0⟩ := bk hb9 (w.heap.size) (by first | omega | (simp; done) | (simp; omega) | fail); obtain ⟨y_w9_0_1, c_w9_0_1, f_w9_0_1, r_w9_0_1, t_w9_0_1, p_w9_0_1⟩ := bk hb9 (w.heap.size + 1) (by first | omega | (simp; done) | (simp; omega) | fail); obtain ⟨y_w9_0_2, c_w9_0_2, f_w9_0_2, r_w9_0_2, t_w9_0_2, p_w9_0_2⟩ := bk hb9 (w.heap.size + 1 + 1) (by first | omega | (simp; done) | (simp; omega) | fail)))
  all_goals go_ret
  all_goals exact ⟨rfl, (by repeat (first | exact Below.refl _ _ | exact Below_of_hid (by assumption) | refine Below.drew ?_ | refine below_drewN ?_ _ | refine Below_putRow ?_ (by first | omega | (simp; done) | (simp; omega) | fail) _ _ | refine Below.alloc ?_ (by first | omega | (simp; done) | (simp; omega) | fail) _ | refine Below.setCell ?_ (by first | omega | (simp; done) | (simp; omega) | fail) _ | refine Below.trans ?_ (Below.mono (by assumption) (by first | omega | (simp; done) | (simp; omega) | fail))))⟩

set_option maxRecDepth 100000 in
set_option maxHeartbeats 4000000 in
theorem matHolds_d (a b d a' b' d' x y k K X1 Y1 XQ YQ : Int) (HA : Hid (I64 a)) (HB : Hid (I64 b)) (HD : Hid (I64 d)) (HA' : Hid (I64 a')) (HB' : Hid (I64 b')) (HD' : Hid (I64 d')) (HX : Hid (I64 x)) (HY : Hid (I64 y)) (HX1 : Hid (I64 X1)) (HY1 : Hid (I64 Y1)) (h1 : ¬ x < -1048576) (h2 : ¬ 1048576 < x) (h3 : ¬ y < -1048576) (h4 : ¬ 1048576 < y)
    (hK : wrap64 (wrap64 ((IntKind.u64.wrap k).tmod 5) + 1) = K) (hK0 : ¬ K = 0) (n1 : IntKind.i64.wrap (-x) = X1) (n2 : IntKind.i64.wrap (-y) = Y1) (HT : Hid (holdsB a b d x y = true)) (HT1 : Hid (holdsB a b d X1 Y1 = true)) (HT0 : Hid (holdsB a b d 0 0 = true)) (HL : Hid (leastB a' b' d' a b d = true → holdsB a' b' d' x y = true)) (hr1 : x.tmod K = 0) (hd1 : (x.tmod K == 0) = true) (hr2 : y.tmod K = 0) (hd2 : (y.tmod K == 0) = true) (q1 : IntKind.i64.wrap (x.tdiv K) = XQ) (q2 : IntKind.i64.wrap (y.tdiv K) = YQ) (HXQ : Hid (I64 XQ)) (HYQ : Hid (I64 YQ)) (HTQ : Hid (holdsB a b d XQ YQ = true)) (w : World) :
    Calls Try.prog 4 #[symV a b d, symV a' b' d', ptV x y, .int .i64 k] w fun e w' => e = .returned (.bool true) ∧ Below w.heap.size w w' := by
  have T0 : Hid (I64 0 ∧ I64 0 ∧ holdsB a b d 0 0 = true) := ⟨⟨by decide, by decide⟩, ⟨by decide, by decide⟩, HT0.out⟩
  have TQ : Hid (I64 XQ ∧ I64 YQ ∧ holdsB a b d XQ YQ = true) := ⟨HXQ.out, HYQ.out, HTQ.out⟩
  have T1 : Hid (I64 X1 ∧ I64 Y1 ∧ holdsB a b d X1 Y1 = true) := ⟨HX1.out, HY1.out, HT1.out⟩
  go_enter Try.func4, Try.ntmps4
  go_wp2_with (first
    | (go_at_call 12; refine (holds_q a b d x y _ HA.out HB.out HD.out HX.out HY.out HT.out _).mono ?_; rintro e w3 ⟨rfl, hb3⟩; have z_w3 := hb3.size; (try simp at z_w3); obtain ⟨y_w3_0_0, c_w3_0_0, f_w3_0_0, r_w3_0_0, t_w3_0_0, p_w3_0_0⟩ := bk hb3 (w.heap.size) (by first | omega | (simp; done) | (simp; omega) | fail); obtain ⟨y_w3_0_1, c_w3_0_1, f_w3_0_1, r_w3_0_1, t_w3_0_1, p_w3_0_1⟩ := bk hb3 (w.heap.size + 1) (by first | omega | (simp; done) | (simp; omega) | fail); obtain ⟨y_w3_0_2, c_w3_0_2, f_w3_0_2, r_w3_0_2, t_w3_0_2, p_w3_0_2⟩ := bk hb3 (w.heap.size + 1 + 1) (by first | omega | (simp; done) | (simp; omega) | fail)))
  have c0 : w3.cell? ⟨w.heap.size, 0, none⟩ = some (.int .i64 a) := (by go_simp)
  have c1 : w3.cell? ⟨w.heap.size, 1, none⟩ = some (.int .i64 b) := (by go_simp)
  have c2 : w3.cell? ⟨w.heap.size, 2, none⟩ = some (.int .i64 d) := (by go_simp)
  have c3 : w3.cell? ⟨w.heap.size + 1 + 1, 0, none⟩ = some (.int .i64 x) := (by go_simp)
  have c4 : w3.cell? ⟨w.heap.size + 1 + 1, 1, none⟩ = some (.int .i64 y) := (by go_simp)
  replace c0 := cell_regrown c0
  replace c1 := cell_regrown c1
  replace c2 := cell_regrown c2
  replace c3 := cell_regrown c3
  replace c4 := cell_regrown c4
  refine wp_region_quiet_below (by kernel_rfl) (by kernel_rfl) ?_
  repeat (go_big_quiet_step (exact Calls.regrown_of (holds_t a b d _ _ HA.out HB.out HD.out (by first | with_reducible exact T1.out | with_reducible exact T0.out | with_reducible exact TQ.out) _)))
  refine wpQuiet_nil ?_
  intro wq hwq
  have hbq := below_of_regrown hwq
  clear hwq c0 c1 c2 c3 c4
  have z_wq := hbq.size; (try simp at z_wq); obtain ⟨y_wq_0_0, c_wq_0_0, f_wq_0_0, r_wq_0_0, t_wq_0_0, p_wq_0_0⟩ := bk hbq (w.heap.size) (by first | omega | (simp; done) | (simp; omega) | fail); obtain ⟨y_wq_0_1, c_wq_0_1, f_wq_0_1, r_wq_0_1, t_wq_0_1, p_wq_0_1⟩ := bk hbq (w.heap.size + 1) (by first | omega | (simp; done) | (simp; omega) | fail); obtain ⟨y_wq_0_2, c_wq_0_2, f_wq_0_2, r_wq_0_2, t_wq_0_2, p_wq_0_2⟩ := bk hbq (w.heap.size + 1 + 1) (by first | omega | (simp; done) | (simp; omega) | fail)
  all_goals (cases hl : leastB a' b' d' a b d)
  all_goals go_wp2_with (first
    | (go_at_call 9; refine (least_c a' b' d' a b d _).mono ?_; rintro e w7 ⟨rfl, hb7⟩; have z_w7 := hb7.size; (try simp at z_w7); obtain ⟨y_w7_0_0, c_w7_0_0, f_w7_0_0, r_w7_0_0, t_w7_0_0, p_w7_0_0⟩ := bk hb7 (w.heap.size) (by first | omega | (simp; done) | (simp; omega) | fail); obtain ⟨y_w7_0_1, c_w7_0_1, f_w7_0_1, r_w7_0_1, t_w7_0_1, p_w7_0_1⟩ := bk hb7 (w.heap.size + 1) (by first | omega | (simp; done) | (simp; omega) | fail); obtain ⟨y_w7_0_2, c_w7_0_2, f_w7_0_2, r_w7_0_2, t_w7_0_2, p_w7_0_2⟩ := bk hb7 (w.heap.size + 1 + 1) (by first | omega | (simp; done) | (simp; omega) | fail))
    | (go_at_call 12; refine (holds_q a' b' d' x y _ HA'.out HB'.out HD'.out HX.out HY.out (HL.out hl) _).mono ?_; rintro e w8 ⟨rfl, hb8⟩; have z_w8 := hb8.size; (try simp at z_w8); obtain ⟨y_w8_0_0, c_w8_0_0, f_w8_0_0, r_w8_0_0, t_w8_0_0, p_w8_0_0⟩ := bk hb8 (w.heap.size) (by first | omega | (simp; done) | (simp; omega) | fail); obtain ⟨y_w8_0_1, c_w8_0_1, f_w8_0_1, r_w8_0_1, t_w8_0_1, p_w8_0_1⟩ := bk hb8 (w.heap.size + 1) (by first | omega | (simp; done) | (simp; omega) | fail); obtain ⟨y_w8_0_2, c_w8_0_2, f_w8_0_2, r_w8_0_2, t_w8_0_2, p_w8_0_2⟩ := bk hb8 (w.heap.size + 1 + 1) (by first | omega | (simp; done) | (simp; omega) | fail))
    | (go_at_call 11; refine (awake_c _).mono ?_; rintro e w9 ⟨rfl, hb9⟩; have z_w9 := hb9.size; (try simp at z_w9); obtain ⟨y_w9_0_0, c_w9_0_0, f_w9_0_0, r_w9_0_0, t_w9_0_0, p_w9_0_0⟩ := bk hb9 (w.heap.size) (by first | omega | (simp; done) | (simp; omega) | fail); obtain ⟨y_w9_0_1, c_w9_0_1, f_w9_0_1, r_w9_0_1, t_w9_0_1, p_w9_0_1⟩ := bk hb9 (w.heap.size + 1) (by first | omega | (simp; done) | (simp; omega) | fail); obtain ⟨y_w9_0_2, c_w9_0_2, f_w9_0_2, r_w9_0_2, t_w9_0_2, p_w9_0_2⟩ := bk hb9 (w.heap.size + 1 + 1) (by first | omega | (simp; done) | (simp; omega) | fail)))
  all_goals go_ret
  all_goals exact ⟨rfl, (by repeat (first | exact Below.refl _ _ | exact Below_of_hid (by assumption) | refine Below.drew ?_ | refine below_drewN ?_ _ | refine Below_putRow ?_ (by first | omega | (simp; done) | (simp; omega) | fail) _ _ | refine Below.alloc ?_ (by first | omega | (simp; done) | (simp; omega) | fail) _ | refine Below.setCell ?_ (by first | omega | (simp; done) | (simp; omega) | fail) _ | refine Below.trans ?_ (Below.mono (by assumption) (by first | omega | (simp; done) | (simp; omega) | fail))))⟩

theorem matHolds_c2 (a b d a' b' d' x y k : Int) (ha : I64 a) (hb : I64 b) (hd : I64 d) (ha' : I64 a') (hb' : I64 b') (hd' : I64 d') (hx : -1048576 ≤ x ∧ x ≤ 1048576) (hy : -1048576 ≤ y ∧ y ≤ 1048576) (h : holdsB a b d x y = true) (w : World) :
    Calls Try.prog 4 #[symV a b d, symV a' b' d', ptV x y, .int .i64 k] w fun e w' => e = .returned (.bool true) ∧ Below w.heap.size w w' := by
  have h1 : ¬ x < -1048576 := by omega
  have h2 : ¬ 1048576 < x := by omega
  have h3 : ¬ y < -1048576 := by omega
  have h4 : ¬ 1048576 < y := by omega
  obtain ⟨K, hK⟩ : ∃ K, wrap64 (wrap64 ((IntKind.u64.wrap k).tmod 5) + 1) = K := ⟨_, rfl⟩
  have hK1 : 1 ≤ K ∧ K ≤ 5 := by rw [← hK]; exact k_range k
  have hK0 : ¬ K = 0 := by omega
  obtain ⟨X1, hX1⟩ : ∃ K, K = -x := ⟨_, rfl⟩
  obtain ⟨Y1, hY1⟩ : ∃ K, K = -y := ⟨_, rfl⟩
  have n1 : IntKind.i64.wrap (-x) = X1 := by rw [hX1, IntKind.wrap_i64]; omega
  have n2 : IntKind.i64.wrap (-y) = Y1 := by rw [hY1, IntKind.wrap_i64]; omega
  have HX : Hid (I64 x) := show I64 _ from ⟨by omega, by omega⟩
  have HY : Hid (I64 y) := show I64 _ from ⟨by omega, by omega⟩
  have HX1 : Hid (I64 X1) := show I64 _ from ⟨by omega, by omega⟩
  have HY1 : Hid (I64 Y1) := show I64 _ from ⟨by omega, by omega⟩
  have HA := Lib.hid ha
  have HB := Lib.hid hb
  have HD := Lib.hid hd
  have HA' := Lib.hid ha'
  have HB' := Lib.hid hb'
  have HD' := Lib.hid hd'
  have HT := Lib.hid h
  have HT1 : Hid (holdsB a b d X1 Y1 = true) := by rw [hX1, hY1]; exact holds_neg a b d x y h
  have HT0 : Hid (holdsB a b d 0 0 = true) := holds_zero a b d x y h
  have HL : Hid (leastB a' b' d' a b d = true → holdsB a' b' d' x y = true) := fun hl => holds_least _ _ _ _ _ _ _ _ hl h
  by_cases hr1 : x.tmod K = 0
  · by_cases hr2 : y.tmod K = 0
    · have t1 := tdiv_i64 x K hK1.1 hx
      have t2 := tdiv_i64 y K hK1.1 hy
      exact matHolds_d a b d a' b' d' x y k K X1 Y1 (x.tdiv K) (y.tdiv K) HA HB HD HA' HB' HD' HX HY HX1 HY1 h1 h2 h3 h4 hK hK0 n1 n2 HT HT1 HT0 HL hr1 (by simp [hr1]) hr2 (by simp [hr2]) (by rw [IntKind.wrap_i64]; omega) (by rw [IntKind.wrap_i64]; omega) (show I64 _ from ⟨by omega, by omega⟩) (show I64 _ from ⟨by omega, by omega⟩) (holds_div a b d x y K hK1.1 hr1 hr2 h) w
    · exact matHolds_b a b d a' b' d' x y k K X1 Y1 0 0 HA HB HD HA' HB' HD' HX HY HX1 HY1 h1 h2 h3 h4 hK hK0 n1 n2 HT HT1 HT0 HL hr1 (by simp [hr1]) hr2 (by simp [hr2]) w
  · exact matHolds_a a b d a' b' d' x y k K X1 Y1 0 0 HA HB HD HA' HB' HD' HX HY HX1 HY1 h1 h2 h3 h4 hK hK0 n1 n2 HT HT1 HT0 HL hr1 (by simp [hr1]) w

theorem matHolds_c (a b d a' b' d' x y k : Int) (ha : I64 a) (hb : I64 b) (hd : I64 d) (ha' : I64 a') (hb' : I64 b') (hd' : I64 d') (w : World) :
    Calls Try.prog 4 #[symV a b d, symV a' b' d', ptV x y, .int .i64 k] w fun e w' => e = .returned (.bool true) ∧ Below w.heap.size w w' := by
  by_cases h : (-1048576 ≤ x ∧ x ≤ 1048576 ∧ -1048576 ≤ y ∧ y ≤ 1048576) ∧ holdsB a b d x y = true
  · exact matHolds_c2 a b d a' b' d' x y k ha hb hd ha' hb' hd' ⟨h.1.1, h.1.2.1⟩ ⟨h.1.2.2.1, h.1.2.2.2⟩ h.2 w
  · refine matHolds_c1 a b d a' b' d' x y k ha hb hd (fun hr => ?_) w
    cases hh : holdsB a b d x y
    · rfl
    · exact absurd ⟨hr, hh⟩ h
end Go.Proofs.Ytcmgcndgdfblcaa
