/- The plain laws of package mat: orders of matrices. No program in sight. -/
import Derived.Test.YtfohihjeemmedaaM5
namespace Go.Proofs.Ytfohihjeemmedaa

theorem psdB_iff (a b d : Int) : psdB a b d = true ↔ 0 ≤ a ∧ 0 ≤ d ∧ 0 ≤ a * d - b * b := by
  unfold psdB; simp [and_assoc]
theorem sq_le_of {a b : Int} (ha : 0 ≤ a) (h : a * a ≤ b * b) (hb : 0 ≤ b) : a ≤ b := by
  rcases Int.lt_or_le b a with h1 | h1
  · have h2 : b * b ≤ b * a := Int.mul_le_mul_of_nonneg_left (Int.le_of_lt h1) hb
    have h3 : b * a < a * a := Int.mul_lt_mul_of_pos_right h1 (by omega)
    omega
  · exact h1
theorem int_sq_nonneg (a : Int) : 0 ≤ a * a := by
  rcases Int.le_total 0 a with h | h
  · exact Int.mul_nonneg h h
  · exact Int.mul_nonneg_of_nonpos_of_nonpos h h
/-- The cross term of two positive matrices: 2 b b' is at most a d' + a' d, either way. -/
theorem cross (a b d a' b' d' : Int) (h1 : 0 ≤ a) (h2 : 0 ≤ d) (h3 : b * b ≤ a * d) (h1' : 0 ≤ a') (h2' : 0 ≤ d') (h3' : b' * b' ≤ a' * d') : 2 * (b * b') ≤ a * d' + a' * d := by
  have hs : 0 ≤ a * d' + a' * d := Int.add_nonneg (Int.mul_nonneg h1 h2') (Int.mul_nonneg h1' h2)
  rcases Int.le_total (2 * (b * b')) 0 with h | h
  · omega
  · refine sq_le_of h ?_ hs
    have e1 : 2 * (b * b') * (2 * (b * b')) = 4 * ((b * b) * (b' * b')) := by grind
    have e2 : (b * b) * (b' * b') ≤ (a * d) * (a' * d') := Int.mul_le_mul h3 h3' (int_sq_nonneg _) (Int.mul_nonneg h1 h2)
    have e3 : (a * d) * (a' * d') = (a * d') * (a' * d) := by grind
    have e4 := int_sq_nonneg (a * d' - a' * d)
    rw [e1]; rw [e3] at e2
    generalize a * d' = x at *
    generalize a' * d = y at *
    have e5 : (x - y) * (x - y) = x * x - x * y - y * x + y * y := by rw [Int.sub_mul, Int.mul_sub, Int.mul_sub]; omega
    have e6 : (x + y) * (x + y) = x * x + x * y + (y * x + y * y) := by rw [Int.add_mul, Int.mul_add, Int.mul_add]
    have e7 : y * x = x * y := Int.mul_comm _ _
    omega
theorem cross_neg (a b d a' b' d' : Int) (h1 : 0 ≤ a) (h2 : 0 ≤ d) (h3 : b * b ≤ a * d) (h1' : 0 ≤ a') (h2' : 0 ≤ d') (h3' : b' * b' ≤ a' * d') : -(2 * (b * b')) ≤ a * d' + a' * d := by
  have := cross a (-b) d a' b' d' h1 h2 (by rw [Int.neg_mul_neg]; exact h3) h1' h2' h3'
  rw [Int.neg_mul] at this; omega
theorem psd_add (a b d a' b' d' : Int) (h : psdB a b d = true) (h' : psdB a' b' d' = true) : psdB (a + a') (b + b') (d + d') = true := by
  rw [psdB_iff] at *
  obtain ⟨h1, h2, h3⟩ := h
  obtain ⟨h1', h2', h3'⟩ := h'
  refine ⟨by omega, by omega, ?_⟩
  have := cross a b d a' b' d' h1 h2 (by omega) h1' h2' (by omega)
  have e1 : (a + a') * (d + d') = a * d + a * d' + (a' * d + a' * d') := by rw [Int.add_mul, Int.mul_add, Int.mul_add]
  have e2 : (b + b') * (b + b') = b * b + b * b' + (b' * b + b' * b') := by rw [Int.add_mul, Int.mul_add, Int.mul_add]
  have e3 : b' * b = b * b' := Int.mul_comm _ _
  omega
theorem psd_zero : psdB 0 0 0 = true := by decide
theorem psd_both (a b d : Int) (h : psdB a b d = true) (h' : psdB (-a) (-b) (-d) = true) : a = 0 ∧ b = 0 ∧ d = 0 := by
  rw [psdB_iff] at *
  obtain ⟨h1, h2, h3⟩ := h
  obtain ⟨h1', h2', h3'⟩ := h'
  have ha : a = 0 := by omega
  have hd : d = 0 := by omega
  subst ha; subst hd
  have hb := int_sq_nonneg b
  have : b * b = 0 := by omega
  exact ⟨rfl, by rcases Int.mul_eq_zero.1 this with h | h <;> exact h, rfl⟩
theorem least_iff (a b d a' b' d' : Int) : leastB a b d a' b' d' = true ↔ mayB a b d = true ∧ mayB a' b' d' = true ∧ psdB (a - a') (b - b') (d - d') = true := by
  unfold leastB; simp [and_assoc]
theorem least_trans (a b d a' b' d' a'' b'' d'' : Int) (h : leastB a b d a' b' d' = true) (h' : leastB a' b' d' a'' b'' d'' = true) : leastB a b d a'' b'' d'' = true := by
  rw [least_iff] at *
  refine ⟨h.1, h'.2.1, ?_⟩
  have := psd_add _ _ _ _ _ _ h.2.2 h'.2.2
  rwa [show a - a' + (a' - a'') = a - a'' by omega, show b - b' + (b' - b'') = b - b'' by omega, show d - d' + (d' - d'') = d - d'' by omega] at this
theorem least_refl (a b d : Int) (h : mayB a b d = true) : leastB a b d a b d = true := by
  rw [least_iff]; refine ⟨h, h, ?_⟩
  rw [Int.sub_self, Int.sub_self, Int.sub_self]; exact psd_zero
theorem least_anti (a b d a' b' d' : Int) (h : leastB a b d a' b' d' = true) (h' : leastB a' b' d' a b d = true) : a = a' ∧ b = b' ∧ d = d' := by
  rw [least_iff] at *
  have := psd_both (a - a') (b - b') (d - d') h.2.2 (by rw [Int.neg_sub, Int.neg_sub, Int.neg_sub]; exact h'.2.2)
  omega
theorem addV_form (a b d a' b' d' : Int) : ∃ p q r e, addV a b d a' b' d' = (symV p q r, e) ∧ (e = 0 → mayB (a + a') (b + b') (d + d') = true ∧ p = a + a' ∧ q = b + b' ∧ r = d + d') := by
  unfold addV
  split
  · split
    · rename_i h; exact ⟨_, _, _, _, rfl, fun _ => ⟨h, rfl, rfl, rfl⟩⟩
    · exact ⟨_, _, _, _, rfl, fun h => absurd h (by decide)⟩
  · exact ⟨_, _, _, _, rfl, fun h => absurd h (by decide)⟩
theorem least_sums (a b d a' b' d' x y z x' y' z' : Int) (h : leastB a b d a' b' d' = true) (h' : leastB x y z x' y' z' = true) (m1 : mayB (a + x) (b + y) (d + z) = true) (m2 : mayB (a' + x') (b' + y') (d' + z') = true) :
    leastB (a + x) (b + y) (d + z) (a' + x') (b' + y') (d' + z') = true := by
  rw [least_iff] at *
  refine ⟨m1, m2, ?_⟩
  have := psd_add _ _ _ _ _ _ h.2.2 h'.2.2
  rwa [show a - a' + (x - x') = a + x - (a' + x') by omega, show b - b' + (y - y') = b + y - (b' + y') by omega, show d - d' + (z - z') = d + z - (d' + z') by omega] at this
end Go.Proofs.Ytfohihjeemmedaa
