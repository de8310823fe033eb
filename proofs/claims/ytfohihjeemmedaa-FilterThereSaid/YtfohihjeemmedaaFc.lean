/- The frame of rows on calls of a filter. -/
import Derived.Test.YtfohihjeemmedaaFe
namespace Go.Proofs.Ytfohihjeemmedaa
open Go.ChangeShapes Go.WideShapes Go.ChangeAt Go.RowKit
set_option maxRecDepth 100000
theorem open_call {W : World} {base : Nat} {v : Value} (h : Value.okWide Try.prog W .any base 51 v) : ∃ n x y a b d p q r l g, v = .agg #[.int .i64 n, .int .i64 x, .int .i64 y, .int .i64 a, .int .i64 b, .int .i64 d, .int .i64 p, .int .i64 q, .int .i64 r, .int .i64 l, .int .i64 g] ∧ I64 n ∧ I64 x ∧ I64 y ∧ I64 a ∧ I64 b ∧ I64 d ∧ I64 p ∧ I64 q ∧ I64 r ∧ I64 l ∧ I64 g := by
  obtain ⟨cs, rfl, hs, hc⟩ := okWide_cells Try.underlying51 (ts := [3, 2, 2, 2, 2, 2, 2, 2, 2, 2, 2]) (by kernel_rfl) (by kernel_rfl) h
  obtain ⟨x0, h0, k0⟩ := hc 0 _ rfl
  obtain ⟨x1, h1, k1⟩ := hc 1 _ rfl
  obtain ⟨x2, h2, k2⟩ := hc 2 _ rfl
  obtain ⟨x3, h3, k3⟩ := hc 3 _ rfl
  obtain ⟨x4, h4, k4⟩ := hc 4 _ rfl
  obtain ⟨x5, h5, k5⟩ := hc 5 _ rfl
  obtain ⟨x6, h6, k6⟩ := hc 6 _ rfl
  obtain ⟨x7, h7, k7⟩ := hc 7 _ rfl
  obtain ⟨x8, h8, k8⟩ := hc 8 _ rfl
  obtain ⟨x9, h9, k9⟩ := hc 9 _ rfl
  obtain ⟨x10, h10, k10⟩ := hc 10 _ rfl
  obtain ⟨n, rfl, b0⟩ := cell_int Try.underlying3 k0
  obtain ⟨x, rfl, b1⟩ := cell_int Try.underlying2 k1
  obtain ⟨y, rfl, b2⟩ := cell_int Try.underlying2 k2
  obtain ⟨a, rfl, b3⟩ := cell_int Try.underlying2 k3
  obtain ⟨b, rfl, b4⟩ := cell_int Try.underlying2 k4
  obtain ⟨d, rfl, b5⟩ := cell_int Try.underlying2 k5
  obtain ⟨p, rfl, b6⟩ := cell_int Try.underlying2 k6
  obtain ⟨q, rfl, b7⟩ := cell_int Try.underlying2 k7
  obtain ⟨r, rfl, b8⟩ := cell_int Try.underlying2 k8
  obtain ⟨l, rfl, b9⟩ := cell_int Try.underlying2 k9
  obtain ⟨g, rfl, b10⟩ := cell_int Try.underlying2 k10
  refine ⟨n, x, y, a, b, d, p, q, r, l, g, ?_, has_i64 b0, has_i64 b1, has_i64 b2, has_i64 b3, has_i64 b4, has_i64 b5, has_i64 b6, has_i64 b7, has_i64 b8, has_i64 b9, has_i64 b10⟩
  congr 1
  apply Array.ext_getElem?
  intro i
  rcases i with _ | _ | _ | _ | _ | _ | _ | _ | _ | _ | _ | i
  · exact h0
  · exact h1
  · exact h2
  · exact h3
  · exact h4
  · exact h5
  · exact h6
  · exact h7
  · exact h8
  · exact h9
  · exact h10
  · rw [Array.getElem?_eq_none (by simp at hs; omega), Array.getElem?_eq_none (by simp)]
end Go.Proofs.Ytfohihjeemmedaa
