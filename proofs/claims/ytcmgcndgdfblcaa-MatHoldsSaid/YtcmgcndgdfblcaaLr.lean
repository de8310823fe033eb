/- The plain laws of what a matrix holds. No program in sight. -/
import Derived.Test.YtcmgcndgdfblcaaLq
namespace Go.Proofs.Ytcmgcndgdfblcaa

theorem psd_point (c x y : Int) (hc : 0 ≤ c) : psdB (c * (x * x)) (c * (x * y)) (c * (y * y)) = true := by
  rw [psdB_iff]
  refine ⟨Int.mul_nonneg hc (int_sq_nonneg x), Int.mul_nonneg hc (int_sq_nonneg y), ?_⟩
  have : c * (x * x) * (c * (y * y)) - c * (x * y) * (c * (x * y)) = 0 := by grind
  omega
theorem holds_neg (a b d x y : Int) (h : holdsB a b d x y = true) : holdsB a b d (-x) (-y) = true := by
  unfold holdsB at *; rw [Int.neg_mul_neg, Int.neg_mul_neg, Int.neg_mul_neg]; exact h
theorem holds_part (a b d x y k u v : Int) (hk : 1 ≤ k) (hx : x = k * u) (hy : y = k * v) (h : holdsB a b d x y = true) : holdsB a b d u v = true := by
  unfold holdsB at *
  have hc : 0 ≤ k * k - 1 := by
    have := Int.mul_le_mul hk hk (by omega) (by omega)
    omega
  have p := psd_add _ _ _ _ _ _ h (psd_point (k * k - 1) u v hc)
  subst hx; subst hy
  rwa [show a - k * u * (k * u) + (k * k - 1) * (u * u) = a - u * u by grind, show b - k * u * (k * v) + (k * k - 1) * (u * v) = b - u * v by grind, show d - k * v * (k * v) + (k * k - 1) * (v * v) = d - v * v by grind] at p
theorem holds_zero (a b d x y : Int) (h : holdsB a b d x y = true) : holdsB a b d 0 0 = true := by
  unfold holdsB at *
  have p := psd_add _ _ _ _ _ _ h (psd_point 1 x y (by decide))
  rwa [show a - x * x + 1 * (x * x) = a - 0 * 0 by omega, show b - x * y + 1 * (x * y) = b - 0 * 0 by omega, show d - y * y + 1 * (y * y) = d - 0 * 0 by omega] at p
theorem holds_div (a b d x y k : Int) (hk : 1 ≤ k) (hx : x.tmod k = 0) (hy : y.tmod k = 0) (h : holdsB a b d x y = true) : holdsB a b d (x.tdiv k) (y.tdiv k) = true := by
  refine holds_part a b d x y k _ _ hk ?_ ?_ h
  · have := Int.mul_tdiv_add_tmod x k; omega
  · have := Int.mul_tdiv_add_tmod y k; omega
theorem holds_least (a b d a' b' d' x y : Int) (hl : leastB a b d a' b' d' = true) (h : holdsB a' b' d' x y = true) : holdsB a b d x y = true := by
  rw [least_iff] at hl
  unfold holdsB at *
  have p := psd_add _ _ _ _ _ _ hl.2.2 h
  rwa [show a - a' + (a' - x * x) = a - x * x by omega, show b - b' + (b' - x * y) = b - x * y by omega, show d - d' + (d' - y * y) = d - y * y by omega] at p
theorem tdiv_i64 (x k : Int) (hk : 1 ≤ k) (hx : -1048576 ≤ x ∧ x ≤ 1048576) : -1048576 ≤ x.tdiv k ∧ x.tdiv k ≤ 1048576 := by
  have h1 := Int.natAbs_tdiv_le_natAbs x k
  omega
end Go.Proofs.Ytcmgcndgdfblcaa
