/- The frame of rows on numbers alone: int64s that came in. -/
import Derived.Test.YtkfdfgecfedeiaaRows
import Derived.Test.YtkfdfgecfedeiaaFr
namespace Go.Proofs.Ytkfdfgecfedeiaa
open Go.ChangeShapes Go.WideShapes Go.ChangeAt Go.RowKit

/-- An int64. -/
def I64 (z : Int) : Prop := -9223372036854775808 ≤ z ∧ z ≤ 9223372036854775807
theorem own : ownKnob Try.prog.godebug = none := by kernel_rfl
theorem laidOut : laidOutB Try.prog = true := by kernel_rfl
theorem open_i64 {W : World} {base : Nat} {v : Value} (h : Value.okWide Try.prog W .any base 2 v) : ∃ n, v = .int .i64 n ∧ I64 n := by
  obtain ⟨n, rfl, hn⟩ := okWide_int_has Try.underlying2 h
  exact ⟨n, rfl, has_i64 hn⟩
end Go.Proofs.Ytkfdfgecfedeiaa
