/- The walks of package ellip: within, MayPoint, May. -/
import Derived.Test.YtdipecepgfaokaaBM
namespace Go.Proofs.Ytdipecepgfaokaa
set_option linter.unusedSimpArgs false
set_option linter.unusedVariables false
open Go.RowKit

/-- An ellipse, as a value. -/
abbrev elC (x y a b d : Int) : Value := .agg #[.int .i64 x, .int .i64 y, .int .i64 a, .int .i64 b, .int .i64 d]
abbrev stC (a b c d e f : Int) : Value := .agg #[.int .i64 a, .int .i64 b, .int .i64 c, .int .i64 d, .int .i64 e, .int .i64 f]
abbrev elV (e : El) : Value := elC e.x e.y e.a e.b e.d
/-- A point's numbers, at most so great. -/
def withinB (x y m : Int) : Bool := decide (-m ≤ x ∧ x ≤ m ∧ -m ≤ y ∧ y ≤ m)
set_option maxHeartbeats 400000 in
theorem within_c (x y m : Int) (hm : 0 ≤ m ∧ m ≤ 9223372036854775807) (w : World) :
    Calls Try.prog 44 #[ptV x y, .int .i64 m] w fun e w' => e = .returned (.bool (withinB x y m)) ∧ Below w.heap.size w w' := by
  have W1 : IntKind.i64.wrap (-m) = -m := by rw [IntKind.wrap_i64]; omega
  have E : withinB x y m = (decide (-m ≤ x) && (decide (x ≤ m) && (decide (-m ≤ y) && decide (y ≤ m)))) := by unfold withinB; simp
  by_cases h1 : -m ≤ x
  · by_cases h2 : x ≤ m
    · by_cases h3 : -m ≤ y
      · have EV : Hid (withinB x y m = decide (y ≤ m)) := by show _ = _; rw [E]; simp [h1, h2, h3]
        clear E
        go_enter Try.func44, Try.ntmps44
        go_wp2
        go_ret
        exact ⟨by rw [EV.out]; rfl, (by repeat (first | exact Below.refl _ _ | exact Below_of_hid (by assumption) | refine Below.drew ?_ | refine below_drewN ?_ _ | refine Below_putRow ?_ (by first | omega | (simp; done) | (simp; omega) | fail) _ _ | refine Below.alloc ?_ (by first | omega | (simp; done) | (simp; omega) | fail) _ | refine Below.setCell ?_ (by first | omega | (simp; done) | (simp; omega) | fail) _ | refine Below.trans ?_ (Below.mono (by assumption) (by first | omega | (simp; done) | (simp; omega) | fail))))⟩
      · have EV : Hid (withinB x y m = false) := by show _ = _; rw [E]; simp [h1, h2, h3]
        clear E
        go_enter Try.func44, Try.ntmps44
        go_wp2
        go_ret
        exact ⟨by rw [EV.out]; rfl, (by repeat (first | exact Below.refl _ _ | exact Below_of_hid (by assumption) | refine Below.drew ?_ | refine below_drewN ?_ _ | refine Below_putRow ?_ (by first | omega | (simp; done) | (simp; omega) | fail) _ _ | refine Below.alloc ?_ (by first | omega | (simp; done) | (simp; omega) | fail) _ | refine Below.setCell ?_ (by first | omega | (simp; done) | (simp; omega) | fail) _ | refine Below.trans ?_ (Below.mono (by assumption) (by first | omega | (simp; done) | (simp; omega) | fail))))⟩
    · have EV : Hid (withinB x y m = false) := by show _ = _; rw [E]; simp [h1, h2]
      clear E
      go_enter Try.func44, Try.ntmps44
      go_wp2
      go_ret
      exact ⟨by rw [EV.out]; rfl, (by repeat (first | exact Below.refl _ _ | exact Below_of_hid (by assumption) | refine Below.drew ?_ | refine below_drewN ?_ _ | refine Below_putRow ?_ (by first | omega | (simp; done) | (simp; omega) | fail) _ _ | refine Below.alloc ?_ (by first | omega | (simp; done) | (simp; omega) | fail) _ | refine Below.setCell ?_ (by first | omega | (simp; done) | (simp; omega) | fail) _ | refine Below.trans ?_ (Below.mono (by assumption) (by first | omega | (simp; done) | (simp; omega) | fail))))⟩
  · have EV : Hid (withinB x y m = false) := by show _ = _; rw [E]; simp [h1]
    clear E
    go_enter Try.func44, Try.ntmps44
    go_wp2
    go_ret
    exact ⟨by rw [EV.out]; rfl, (by repeat (first | exact Below.refl _ _ | exact Below_of_hid (by assumption) | refine Below.drew ?_ | refine below_drewN ?_ _ | refine Below_putRow ?_ (by first | omega | (simp; done) | (simp; omega) | fail) _ _ | refine Below.alloc ?_ (by first | omega | (simp; done) | (simp; omega) | fail) _ | refine Below.setCell ?_ (by first | omega | (simp; done) | (simp; omega) | fail) _ | refine Below.trans ?_ (Below.mono (by assumption) (by first | omega | (simp; done) | (simp; omega) | fail))))⟩
theorem maypt_c (x y : Int) (w : World) :
    Calls Try.prog 39 #[ptV x y] w fun e w' => e = .returned (.bool (mayPt x y)) ∧ Below w.heap.size w w' := by
  go_enter Try.func39, Try.ntmps39
  go_wp2_with fail
  refine (within_c x y 4194304 (by decide) _).mono ?_; rintro e w1 ⟨rfl, hb1⟩; have s1 := hb1.size
  go_wp2_with fail
  go_ret
  exact ⟨rfl, (by repeat (first | exact Below.refl _ _ | exact Below_of_hid (by assumption) | refine Below.drew ?_ | refine below_drewN ?_ _ | refine Below_putRow ?_ (by first | omega | (simp; done) | (simp; omega) | fail) _ _ | refine Below.alloc ?_ (by first | omega | (simp; done) | (simp; omega) | fail) _ | refine Below.setCell ?_ (by first | omega | (simp; done) | (simp; omega) | fail) _ | refine Below.trans ?_ (Below.mono (by assumption) (by first | omega | (simp; done) | (simp; omega) | fail))))⟩
theorem El.may_mat (e : El) (h : e.may = true) : mayB e.a e.b e.d = true := by
  have := (El.may_iff e).1 h
  rw [mayB_iff]; omega
theorem may_cases (m : Bool) (a b d : Int) : (m = false) ∨ (m = true ∧ ¬ 1 ≤ a) ∨ (m = true ∧ 1 ≤ a ∧ ¬ a ≤ 70368744177664) ∨ (m = true ∧ 1 ≤ a ∧ a ≤ 70368744177664 ∧ ¬ 1 ≤ d) ∨ (m = true ∧ 1 ≤ a ∧ a ≤ 70368744177664 ∧ 1 ≤ d ∧ ¬ d ≤ 70368744177664) ∨
    (m = true ∧ 1 ≤ a ∧ a ≤ 70368744177664 ∧ 1 ≤ d ∧ d ≤ 70368744177664 ∧ ¬ -70368744177664 ≤ b) ∨ (m = true ∧ 1 ≤ a ∧ a ≤ 70368744177664 ∧ 1 ≤ d ∧ d ≤ 70368744177664 ∧ -70368744177664 ≤ b ∧ ¬ b ≤ 70368744177664) ∨
    (m = true ∧ 1 ≤ a ∧ a ≤ 70368744177664 ∧ 1 ≤ d ∧ d ≤ 70368744177664 ∧ -70368744177664 ≤ b ∧ b ≤ 70368744177664) := by
  cases m <;> simp <;> omega
set_option maxHeartbeats 2000000 in
theorem ellmay_c (x y a b d : Int) (w : World) :
    Calls Try.prog 34 #[elC x y a b d] w fun e w' => e = .returned (.bool (El.may ⟨x, y, a, b, d⟩)) ∧ Below w.heap.size w w' := by
  obtain ⟨m, hm⟩ : ∃ m, m = mayPt x y := ⟨_, rfl⟩
  have E : Hid (El.may ⟨x, y, a, b, d⟩ = (m && (decide (1 ≤ a) && (decide (a ≤ 70368744177664) && (decide (1 ≤ d) && (decide (d ≤ 70368744177664) && (decide (-70368744177664 ≤ b) && (decide (b ≤ 70368744177664) && decide (0 < a * d - b * b))))))))) := by
    show _ = _; rw [hm]; unfold El.may; simp [Bool.and_assoc]
  have HM := Lib.hid hm.symm
  clear hm
  rcases may_cases m a b d with h0 | ⟨h0, h1⟩ | ⟨h0, h1, h2⟩ | ⟨h0, h1, h2, h3⟩ | ⟨h0, h1, h2, h3, h4⟩ | ⟨h0, h1, h2, h3, h4, h5⟩ | ⟨h0, h1, h2, h3, h4, h5, h6⟩ | ⟨h0, h1, h2, h3, h4, h5, h6⟩
  case inr.inr.inr.inr.inr.inr.inr =>
    subst h0
    have HA : Hid (I64 a ∧ I64 b ∧ I64 d) := by unfold Hid I64; omega
    obtain ⟨s, hs⟩ : ∃ s, s = a * d - b * b := ⟨_, rfl⟩
    have S : Hid (Sm 260 s) := by show Sm 260 s; rw [hs]; exact (HA.out.1.sm.mul HA.out.2.2.sm |>.sub (HA.out.2.1.sm.mul HA.out.2.1.sm)).mono (by decide)
    have HS := Lib.hid hs
    clear hs
    rw [← HS.out] at E
    have EV : Hid (El.may ⟨x, y, a, b, d⟩ = decide (0 < s)) := by show _ = _; rw [E.out]; simp [h1, h2, h3, h4, h5, h6]
    have e1 := Lib.hid (WI.of_sign (S.out.lim (by decide)))
    go_enter Try.func34, Try.ntmps34
    go_wp2_with fail
    refine (maypt_c _ _ _).mono ?_; rintro e w1 ⟨rfl, hb1⟩; rw [HM.out]; have z_w1 := hb1.size; (try simp at z_w1); obtain ⟨y_w1_0_0, c_w1_0_0, f_w1_0_0, r_w1_0_0, t_w1_0_0, p_w1_0_0⟩ := bk hb1 (w.heap.size) (by first | omega | (simp; done) | (simp; omega) | fail); obtain ⟨y_w1_0_1, c_w1_0_1, f_w1_0_1, r_w1_0_1, t_w1_0_1, p_w1_0_1⟩ := bk hb1 (w.heap.size + 1) (by first | omega | (simp; done) | (simp; omega) | fail)
    go_wp2_with fail
    refine (matdet_c _ _ _ HA.out.1 HA.out.2.1 HA.out.2.2 _).mono ?_; rintro e w2 ⟨rfl, hb2⟩; have z_w2 := hb2.size; (try simp at z_w2); obtain ⟨y_w2_0_0, c_w2_0_0, f_w2_0_0, r_w2_0_0, t_w2_0_0, p_w2_0_0⟩ := bk hb2 (w.heap.size) (by first | omega | (simp; done) | (simp; omega) | fail); obtain ⟨y_w2_0_1, c_w2_0_1, f_w2_0_1, r_w2_0_1, t_w2_0_1, p_w2_0_1⟩ := bk hb2 (w.heap.size + 1) (by first | omega | (simp; done) | (simp; omega) | fail)
    rw [← HS.out]
    go_wp2_with fail
    refine (sign_I _ _).mono ?_; rintro e w3 ⟨rfl, hb3⟩; rw [e1.out]; have z_w3 := hb3.size; (try simp at z_w3); obtain ⟨y_w3_0_0, c_w3_0_0, f_w3_0_0, r_w3_0_0, t_w3_0_0, p_w3_0_0⟩ := bk hb3 (w.heap.size) (by first | omega | (simp; done) | (simp; omega) | fail); obtain ⟨y_w3_0_1, c_w3_0_1, f_w3_0_1, r_w3_0_1, t_w3_0_1, p_w3_0_1⟩ := bk hb3 (w.heap.size + 1) (by first | omega | (simp; done) | (simp; omega) | fail)
    go_wp2
    go_ret
    exact ⟨by rw [EV.out]; simp, (by repeat (first | exact Below.refl _ _ | exact Below_of_hid (by assumption) | refine Below.drew ?_ | refine below_drewN ?_ _ | refine Below_putRow ?_ (by first | omega | (simp; done) | (simp; omega) | fail) _ _ | refine Below.alloc ?_ (by first | omega | (simp; done) | (simp; omega) | fail) _ | refine Below.setCell ?_ (by first | omega | (simp; done) | (simp; omega) | fail) _ | refine Below.trans ?_ (Below.mono (by assumption) (by first | omega | (simp; done) | (simp; omega) | fail))))⟩
  all_goals subst h0
  all_goals have EV : Hid (El.may ⟨x, y, a, b, d⟩ = false) := by show _ = _; rw [E.out]; simp [*]
  all_goals clear E
  all_goals go_enter Try.func34, Try.ntmps34
  all_goals go_wp2_with fail
  all_goals (refine (maypt_c _ _ _).mono ?_; rintro e w1 ⟨rfl, hb1⟩; rw [HM.out]; have z_w1 := hb1.size; (try simp at z_w1); obtain ⟨y_w1_0_0, c_w1_0_0, f_w1_0_0, r_w1_0_0, t_w1_0_0, p_w1_0_0⟩ := bk hb1 (w.heap.size) (by first | omega | (simp; done) | (simp; omega) | fail); obtain ⟨y_w1_0_1, c_w1_0_1, f_w1_0_1, r_w1_0_1, t_w1_0_1, p_w1_0_1⟩ := bk hb1 (w.heap.size + 1) (by first | omega | (simp; done) | (simp; omega) | fail))
  all_goals go_wp2_with fail
  all_goals go_ret
  all_goals exact ⟨by rw [EV.out]; rfl, (by repeat (first | exact Below.refl _ _ | exact Below_of_hid (by assumption) | refine Below.drew ?_ | refine below_drewN ?_ _ | refine Below_putRow ?_ (by first | omega | (simp; done) | (simp; omega) | fail) _ _ | refine Below.alloc ?_ (by first | omega | (simp; done) | (simp; omega) | fail) _ | refine Below.setCell ?_ (by first | omega | (simp; done) | (simp; omega) | fail) _ | refine Below.trans ?_ (Below.mono (by assumption) (by first | omega | (simp; done) | (simp; omega) | fail))))⟩
end Go.Proofs.Ytdipecepgfaokaa
