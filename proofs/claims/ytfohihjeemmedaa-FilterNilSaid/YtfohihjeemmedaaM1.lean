/- The walks of package mat: in, May, Add, Adj. -/
import Derived.Test.YtfohihjeemmedaaW4
namespace Go.Proofs.Ytfohihjeemmedaa
open Go.RowKit

/-- A number that may be in a matrix. -/
def inB (n : Int) : Bool := decide (-2305843009213693952 ≤ n) && decide (n ≤ 2305843009213693952)
/-- A matrix that may be. -/
def mayB (a b d : Int) : Bool := inB a && inB b && inB d
theorem inB_iff (n : Int) : inB n = true ↔ -2305843009213693952 ≤ n ∧ n ≤ 2305843009213693952 := by unfold inB; simp
theorem mayB_iff (a b d : Int) : mayB a b d = true ↔ (-2305843009213693952 ≤ a ∧ a ≤ 2305843009213693952) ∧ (-2305843009213693952 ≤ b ∧ b ≤ 2305843009213693952) ∧ (-2305843009213693952 ≤ d ∧ d ≤ 2305843009213693952) := by
  unfold mayB; simp [inB_iff, and_assoc]
/-- A matrix, a point, as values. -/
abbrev symV (a b d : Int) : Value := .agg #[.int .i64 a, .int .i64 b, .int .i64 d]
abbrev ptV (x y : Int) : Value := .agg #[.int .i64 x, .int .i64 y]
/-- An int64. -/
def I64 (z : Int) : Prop := -9223372036854775808 ≤ z ∧ z ≤ 9223372036854775807

set_option maxHeartbeats 400000 in
theorem in_c (n : Int) (w : World) :
    Calls Try.prog 111 #[.int .i64 n] w fun e w' => e = .returned (.bool (inB n)) ∧ w' = w := by
  by_cases h1 : -2305843009213693952 ≤ n
  · by_cases h2 : n ≤ 2305843009213693952
    · have E : Hid (inB n = true) := (inB_iff n).2 ⟨h1, h2⟩
      go_enter Try.func111, Try.ntmps111
      go_wp2
      go_ret
      exact ⟨by rw [E.out]; rfl, rfl⟩
    · have E : Hid (inB n = false) := by show inB n = false; unfold inB; simp [h1, h2]
      go_enter Try.func111, Try.ntmps111
      go_wp2
      go_ret
      exact ⟨by rw [E.out]; rfl, rfl⟩
  · have E : Hid (inB n = false) := by show inB n = false; unfold inB; simp [h1]
    go_enter Try.func111, Try.ntmps111
    go_wp2
    go_ret
    exact ⟨by rw [E.out]; rfl, rfl⟩

set_option maxHeartbeats 400000 in
theorem may_c (a b d : Int) (w : World) :
    Calls Try.prog 97 #[symV a b d] w fun e w' => e = .returned (.bool (mayB a b d)) ∧ Below w.heap.size w w' := by
  have E : Hid (mayB a b d = (inB a && inB b && inB d)) := rfl
  go_enter Try.func97, Try.ntmps97
  cases ha : inB a with
  | false =>
    go_wp2_with (go_at_call 111; refine (in_c _ _).mono ?_; rintro e w' ⟨rfl, rfl⟩; (try rw [ha]))
    go_ret
    exact ⟨by rw [E.out, ha]; rfl, (by repeat (first | exact Below.refl _ _ | exact Below_of_hid (by assumption) | refine Below.drew ?_ | refine below_drewN ?_ _ | refine Below_putRow ?_ (by first | omega | (simp; done) | (simp; omega) | fail) _ _ | refine Below.alloc ?_ (by first | omega | (simp; done) | (simp; omega) | fail) _ | refine Below.setCell ?_ (by first | omega | (simp; done) | (simp; omega) | fail) _ | refine Below.trans ?_ (Below.mono (by assumption) (by first | omega | (simp; done) | (simp; omega) | fail))))⟩
  | true =>
    cases hb : inB b with
    | false =>
      go_wp2_with (go_at_call 111; refine (in_c _ _).mono ?_; rintro e w' ⟨rfl, rfl⟩; (first | rw [ha] | rw [hb]))
      go_ret
      exact ⟨by rw [E.out, ha, hb]; rfl, (by repeat (first | exact Below.refl _ _ | exact Below_of_hid (by assumption) | refine Below.drew ?_ | refine below_drewN ?_ _ | refine Below_putRow ?_ (by first | omega | (simp; done) | (simp; omega) | fail) _ _ | refine Below.alloc ?_ (by first | omega | (simp; done) | (simp; omega) | fail) _ | refine Below.setCell ?_ (by first | omega | (simp; done) | (simp; omega) | fail) _ | refine Below.trans ?_ (Below.mono (by assumption) (by first | omega | (simp; done) | (simp; omega) | fail))))⟩
    | true =>
      go_wp2_with (go_at_call 111; refine (in_c _ _).mono ?_; rintro e w' ⟨rfl, rfl⟩; (first | rw [ha] | rw [hb] | skip))
      go_ret
      exact ⟨by rw [E.out, ha, hb]; rfl, (by repeat (first | exact Below.refl _ _ | exact Below_of_hid (by assumption) | refine Below.drew ?_ | refine below_drewN ?_ _ | refine Below_putRow ?_ (by first | omega | (simp; done) | (simp; omega) | fail) _ _ | refine Below.alloc ?_ (by first | omega | (simp; done) | (simp; omega) | fail) _ | refine Below.setCell ?_ (by first | omega | (simp; done) | (simp; omega) | fail) _ | refine Below.trans ?_ (Below.mono (by assumption) (by first | omega | (simp; done) | (simp; omega) | fail))))⟩
end Go.Proofs.Ytfohihjeemmedaa
