/- The frame of rows on ellipses, points, strips, numbers that came in. -/
import Derived.Test.YtdipecepgfaokaaRows
import Derived.Test.YtdipecepgfaokaaFr
import Derived.Test.YtdipecepgfaokaaE1
namespace Go.Proofs.Ytdipecepgfaokaa
set_option linter.unusedSimpArgs false
set_option linter.unusedVariables false
open Go.ChangeShapes Go.WideShapes Go.ChangeAt Go.RowKit
set_option maxRecDepth 100000

theorem own : ownKnob Try.prog.godebug = none := by kernel_rfl
theorem laidOut : laidOutB Try.prog = true := by kernel_rfl
theorem open_i64 {W : World} {base : Nat} {v : Value} (h : Value.okWide Try.prog W .any base 2 v) : ∃ n, v = .int .i64 n ∧ I64 n := by
  obtain ⟨n, rfl, hn⟩ := okWide_int_has Try.underlying2 h
  exact ⟨n, rfl, has_i64 hn⟩
theorem open_int {W : World} {base : Nat} {v : Value} (h : Value.okWide Try.prog W .any base 3 v) : ∃ n, v = .int .i64 n ∧ I64 n := by
  obtain ⟨n, rfl, hn⟩ := okWide_int_has Try.underlying3 h
  exact ⟨n, rfl, has_i64 hn⟩
theorem open_pt {W : World} {base : Nat} {v : Value} (h : Value.okWide Try.prog W .any base 23 v) : ∃ a b, v = ptV a b ∧ I64 a ∧ I64 b := by
  obtain ⟨cs, rfl, hs, hc⟩ := okWide_cells Try.underlying23 (ts := [2, 2]) (by kernel_rfl) (by kernel_rfl) h
  obtain ⟨x0, h0, k0⟩ := hc 0 _ rfl
  obtain ⟨x1, h1, k1⟩ := hc 1 _ rfl
  obtain ⟨a, rfl, b0⟩ := cell_int Try.underlying2 k0
  obtain ⟨b, rfl, b1⟩ := cell_int Try.underlying2 k1
  refine ⟨a, b, ?_, has_i64 b0, has_i64 b1⟩
  congr 1
  apply Array.ext_getElem?
  intro i
  rcases i with _ | _ | i
  · exact h0
  · exact h1
  · rw [Array.getElem?_eq_none (by simp at hs; omega), Array.getElem?_eq_none (by simp)]
theorem open_el {W : World} {base : Nat} {v : Value} (h : Value.okWide Try.prog W .any base 27 v) : ∃ x y a b d, v = elC x y a b d ∧ I64 x ∧ I64 y ∧ I64 a ∧ I64 b ∧ I64 d := by
  obtain ⟨cs, rfl, hs, hc⟩ := okWide_cells Try.underlying27 (ts := [2, 2, 2, 2, 2]) (by kernel_rfl) (by kernel_rfl) h
  obtain ⟨x0, h0, k0⟩ := hc 0 _ rfl
  obtain ⟨x1, h1, k1⟩ := hc 1 _ rfl
  obtain ⟨x2, h2, k2⟩ := hc 2 _ rfl
  obtain ⟨x3, h3, k3⟩ := hc 3 _ rfl
  obtain ⟨x4, h4, k4⟩ := hc 4 _ rfl
  obtain ⟨x, rfl, b0⟩ := cell_int Try.underlying2 k0
  obtain ⟨y, rfl, b1⟩ := cell_int Try.underlying2 k1
  obtain ⟨a, rfl, b2⟩ := cell_int Try.underlying2 k2
  obtain ⟨b, rfl, b3⟩ := cell_int Try.underlying2 k3
  obtain ⟨d, rfl, b4⟩ := cell_int Try.underlying2 k4
  refine ⟨x, y, a, b, d, ?_, has_i64 b0, has_i64 b1, has_i64 b2, has_i64 b3, has_i64 b4⟩
  congr 1
  apply Array.ext_getElem?
  intro i
  rcases i with _ | _ | _ | _ | _ | i
  · exact h0
  · exact h1
  · exact h2
  · exact h3
  · exact h4
  · rw [Array.getElem?_eq_none (by simp at hs; omega), Array.getElem?_eq_none (by simp)]
end Go.Proofs.Ytdipecepgfaokaa
