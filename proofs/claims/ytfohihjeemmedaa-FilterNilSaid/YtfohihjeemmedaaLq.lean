/- The plain law of positive matrices: the square form. No program in sight. -/
import Derived.Test.YtfohihjeemmedaaLp
namespace Go.Proofs.Ytfohihjeemmedaa

/-- The square form. -/
def form (a b d x y : Int) : Int := a * (x * x) + d * (y * y) + (b * (x * y) + b * (x * y))
theorem form_sm (a b d x y : Int) (ha : I64 a) (hb : I64 b) (hd : I64 d) (hx : I64 x) (hy : I64 y) : Sm 191 (form a b d x y) := by
  have A := Sm.of64 ha.1 ha.2
  have B := Sm.of64 hb.1 hb.2
  have D := Sm.of64 hd.1 hd.2
  have X := Sm.of64 hx.1 hx.2
  have Y := Sm.of64 hy.1 hy.2
  exact Sm.add ((A.mul (X.mul X)).add (D.mul (Y.mul Y))) ((B.mul (X.mul Y)).add (B.mul (X.mul Y)))
theorem psd_form (a b d x y : Int) (h : psdB a b d = true) : 0 ≤ form a b d x y := by
  rw [psdB_iff] at h
  obtain ⟨h1, h2, h3⟩ := h
  unfold form
  rcases Int.lt_or_eq_of_le h1 with h0 | h0
  · have e : a * (a * (x * x) + d * (y * y) + (b * (x * y) + b * (x * y))) = (a * x + b * y) * (a * x + b * y) + (a * d - b * b) * (y * y) := by grind
    have p1 := int_sq_nonneg (a * x + b * y)
    have p2 := Int.mul_nonneg h3 (int_sq_nonneg y)
    rcases Int.lt_or_le (a * (x * x) + d * (y * y) + (b * (x * y) + b * (x * y))) 0 with hn | hn
    · have := Int.mul_neg_of_pos_of_neg h0 hn
      omega
    · exact hn
  · subst h0
    have hb := int_sq_nonneg b
    have hb0 : b = 0 := by
      have : b * b = 0 := by omega
      rcases Int.mul_eq_zero.1 this with h | h <;> exact h
    subst hb0
    have := Int.mul_nonneg h2 (int_sq_nonneg y)
    omega
/-- Where it is not positive one of six points shows it. -/
theorem not_psd (a b d : Int) (h : psdB a b d = false) (h1 : 0 ≤ form a b d 1 0) (h2 : 0 ≤ form a b d 0 1) (h3 : 0 ≤ form a b d b (-a)) (h4 : 0 ≤ form a b d d (-b)) (h5 : 0 ≤ form a b d 1 1) (h6 : 0 ≤ form a b d 1 (-1)) : False := by
  have e1 : form a b d 1 0 = a := by unfold form; grind
  have e2 : form a b d 0 1 = d := by unfold form; grind
  have e3 : form a b d b (-a) = a * (a * d - b * b) := by unfold form; grind
  have e4 : form a b d d (-b) = d * (a * d - b * b) := by unfold form; grind
  have e5 : form a b d 1 1 = a + d + 2 * b := by unfold form; grind
  have e6 : form a b d 1 (-1) = a + d - 2 * b := by unfold form; grind
  rw [e1] at h1; rw [e2] at h2; rw [e3] at h3; rw [e4] at h4; rw [e5] at h5; rw [e6] at h6
  have hn : a * d - b * b < 0 := by
    rcases Int.lt_or_le (a * d - b * b) 0 with hn | hn
    · exact hn
    · have := (psdB_iff a b d).2 ⟨h1, h2, hn⟩; rw [h] at this; cases this
  have ha : a = 0 := by
    rcases Int.lt_or_eq_of_le h1 with h0 | h0
    · have := Int.mul_neg_of_pos_of_neg h0 hn; omega
    · exact h0.symm
  have hd : d = 0 := by
    rcases Int.lt_or_eq_of_le h2 with h0 | h0
    · have := Int.mul_neg_of_pos_of_neg h0 hn; omega
    · exact h0.symm
  subst ha; subst hd
  have : b = 0 := by omega
  subst this; simp at hn
end Go.Proofs.Ytfohihjeemmedaa
