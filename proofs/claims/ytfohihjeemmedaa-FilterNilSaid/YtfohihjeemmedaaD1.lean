/- The plain law of math/bits.Div64: two digits of 32 bits. No program in sight. -/
import Derived.Test.YtfohihjeemmedaaD0
namespace Go.Proofs.Ytfohihjeemmedaa

/-- What holds while a digit is tried: q is not below the digit, and r is what q leaves of X by a. -/
def Tried (X c a b q r : Nat) : Prop := q * a + r = X ∧ (X * 4294967296 + c) / (a * 4294967296 + b) ≤ q ∧ q ≤ 4294967297
theorem half_first (X c a b : Nat) (ha : 2147483648 ≤ a) (hb : b < 4294967296) (hc : c < 4294967296) (hX : X < a * 4294967296 + b) : Tried X c a b (X / a) (X % a) := by
  refine ⟨by rw [Nat.mul_comm]; exact Nat.div_add_mod X a, ?_, ?_⟩
  · have h := est (X * 4294967296 + c) (a * 4294967296 + b) 4294967296 a (by omega) (by decide) (by omega)
    have e : (X * 4294967296 + c) / 4294967296 = X := by omega
    rwa [e] at h
  · have h1 : X / a < 4294967298 := by
      rw [Nat.div_lt_iff_lt_mul (by omega)]; omega
    omega
theorem half_lt (X c a b : Nat) (hc : c < 4294967296) (hX : X < a * 4294967296 + b) : (X * 4294967296 + c) / (a * 4294967296 + b) < 4294967296 := by
  rw [Nat.div_lt_iff_lt_mul (by omega)]; omega
theorem half_great (X c a b q r : Nat) (h : Tried X c a b q r) (hX : X < a * 4294967296 + b) (hgt : 4294967296 * r + c < q * b) : (X * 4294967296 + c) / (a * 4294967296 + b) < q := by
  obtain ⟨h1, _, _⟩ := h
  rw [Nat.div_lt_iff_lt_mul (by omega), ← h1]
  have e : q * (a * 4294967296 + b) = q * a * 4294967296 + q * b := by rw [Nat.mul_add, Nat.mul_assoc]
  omega
theorem half_dec (X c a b q r : Nat) (h : Tried X c a b q r) (hlt : (X * 4294967296 + c) / (a * 4294967296 + b) < q) : Tried X c a b (q - 1) (r + a) := by
  obtain ⟨h1, h2, h3⟩ := h
  have h0 := Nat.lt_of_le_of_lt (Nat.zero_le _) hlt
  obtain ⟨p, rfl⟩ : ∃ p, q = p + 1 := ⟨q - 1, by omega⟩
  refine ⟨?_, Nat.le_of_lt_succ hlt, by omega⟩
  rw [Nat.add_mul, Nat.one_mul] at h1
  rw [Nat.add_sub_cancel]; omega
theorem half_done (X c a b q r : Nat) (h : Tried X c a b q r) (hX : X < a * 4294967296 + b) (hle : q * b ≤ 4294967296 * r + c) : q = (X * 4294967296 + c) / (a * 4294967296 + b) := by
  obtain ⟨h1, h2, _⟩ := h
  have : q ≤ (X * 4294967296 + c) / (a * 4294967296 + b) := by
    rw [Nat.le_div_iff_mul_le (by omega), ← h1]
    have e : q * (a * 4294967296 + b) = q * a * 4294967296 + q * b := by rw [Nat.mul_add, Nat.mul_assoc]
    omega
  exact Nat.le_antisymm this h2
theorem half_break (X c a b q r : Nat) (h : Tried X c a b q r) (hX : X < a * 4294967296 + b) (hb : b < 4294967296) (hq : q ≤ 4294967296) (hr : 4294967296 ≤ r) : q = (X * 4294967296 + c) / (a * 4294967296 + b) := by
  refine half_done X c a b q r h hX ?_
  have : q * b ≤ 4294967296 * 4294967295 := Nat.mul_le_mul hq (by omega)
  omega
/-- One turn of trying: either the digit is too great, one less is tried, and it is the digit where the rest is great; or it is the digit. -/
theorem half_ways (X c a b q r Y : Nat) (T : Tried X c a b q r) (hY : Y = a * 4294967296 + b) (hX : X < a * 4294967296 + b) (hc : c < 4294967296) (hb : b < 4294967296) :
    ((4294967296 ≤ q ∨ 4294967296 * r + c < q * b) → ∃ p ra, q = p + 1 ∧ ra = r + a ∧ Tried X c a b p ra ∧ (4294967296 ≤ ra → p = (X * 4294967296 + c) / Y)) ∧
      (¬ (4294967296 ≤ q ∨ 4294967296 * r + c < q * b) → q = (X * 4294967296 + c) / Y) := by
  subst hY
  constructor
  · intro hg
    have hlt : (X * 4294967296 + c) / (a * 4294967296 + b) < q := by
      rcases hg with hg | hg
      · exact Nat.lt_of_lt_of_le (half_lt X c a b hc hX) hg
      · exact half_great X c a b q r T hX hg
    have hpos := Nat.lt_of_le_of_lt (Nat.zero_le _) hlt
    have t3 := T.2.2
    refine ⟨q - 1, r + a, by omega, rfl, half_dec X c a b q r T hlt, fun hr => ?_⟩
    exact half_break X c a b (q - 1) (r + a) (half_dec X c a b q r T hlt) hX hb (by omega) hr
  · intro hg
    exact half_done X c a b q r T hX (by omega)

/-- What is left, reckoned around 2^64. -/
theorem rest_wrap (X c P R y : Nat) (hR : R < y) (hy : y ≤ 18446744073709551616) (h : P + R = X * 4294967296 + c) (_hX : X < 18446744073709551616) (_hc : c < 4294967296) :
    ((((X : Int) * 4294967296) % 18446744073709551616 + c) % 18446744073709551616 - (P : Int) % 18446744073709551616) % 18446744073709551616 = (R : Int) := by
  have : (((X : Int) * 4294967296) % 18446744073709551616 + c) % 18446744073709551616 = ((X : Int) * 4294967296 + c) % 18446744073709551616 := by omega
  rw [this]
  have h2 : (X : Int) * 4294967296 + c = P + R := by omega
  rw [h2]
  omega
theorem div64_aux (z c0 Y : Nat) (hY : 0 < Y) : z / Y * 4294967296 + (z % Y * 4294967296 + c0) / Y = (z * 4294967296 + c0) / Y ∧ (z % Y * 4294967296 + c0) % Y / 1 = (z * 4294967296 + c0) % Y := by
  have h1 := Nat.div_add_mod z Y
  generalize z / Y = q at *
  generalize z % Y = r at *
  have e3 : z * 4294967296 + c0 = (r * 4294967296 + c0) + Y * (q * 4294967296) := by
    rw [← h1, Nat.add_mul, Nat.mul_assoc]; omega
  rw [e3, Nat.add_mul_div_left _ _ hY, Nat.add_mul_mod_self_left, Nat.div_one]
  exact ⟨Nat.add_comm _ _, rfl⟩
/-- The whole of it: a number of two words by one. -/
theorem div64_parts (h l y s X c0 c1 : Nat) (hX : X * 18446744073709551616 + (c1 * 4294967296 + c0) = (h * 18446744073709551616 + l) * 2 ^ s) (_hc0 : c0 < 4294967296) (hy : 0 < y) (_hlt : X < y * 2 ^ s) :
    (X * 4294967296 + c1) / (y * 2 ^ s) * 4294967296 + ((X * 4294967296 + c1) % (y * 2 ^ s) * 4294967296 + c0) / (y * 2 ^ s) = (h * 18446744073709551616 + l) / y ∧
      ((X * 4294967296 + c1) % (y * 2 ^ s) * 4294967296 + c0) % (y * 2 ^ s) / 2 ^ s = (h * 18446744073709551616 + l) % y := by
  have hY : 0 < y * 2 ^ s := Nat.mul_pos hy (Nat.two_pow_pos s)
  have e0 : (h * 18446744073709551616 + l) * 2 ^ s = (X * 4294967296 + c1) * 4294967296 + c0 := by omega
  have e1 := div_scale (h * 18446744073709551616 + l) y s
  have e2 := mod_scale (h * 18446744073709551616 + l) y s
  rw [e0] at e1 e2
  rw [← e1, ← e2]
  have h := div64_aux (X * 4294967296 + c1) c0 (y * 2 ^ s) hY
  exact ⟨h.1, by rw [← h.2, Nat.div_one]⟩
/-- The number shifted: its upper word. -/
theorem div64_shift (h l y s : Nat) (hs : s ≤ 64) (hy : y * 2 ^ s < 18446744073709551616) (hh : h < y) (hl : l < 18446744073709551616) :
    (h * 2 ^ s % 18446744073709551616) ||| (l / 2 ^ (64 - s)) = h * 2 ^ s + l / 2 ^ (64 - s) ∧ h * 2 ^ s + l / 2 ^ (64 - s) < y * 2 ^ s ∧
      (h * 2 ^ s + l / 2 ^ (64 - s)) * 18446744073709551616 + l * 2 ^ s % 18446744073709551616 = (h * 18446744073709551616 + l) * 2 ^ s := by
  have hp : (18446744073709551616 : Nat) = 2 ^ s * 2 ^ (64 - s) := by rw [← Nat.pow_add, show s + (64 - s) = 64 by omega]
  have h1 : l / 2 ^ (64 - s) < 2 ^ s := by rw [Nat.div_lt_iff_lt_mul (Nat.two_pow_pos _), ← hp]; exact hl
  have h2 : h * 2 ^ s + 2 ^ s ≤ y * 2 ^ s := by
    have : (h + 1) * 2 ^ s ≤ y * 2 ^ s := Nat.mul_le_mul_right _ hh
    rwa [Nat.add_mul, Nat.one_mul] at this
  have h0 := Nat.two_pow_pos s
  refine ⟨?_, by omega, ?_⟩
  · rw [Nat.mod_eq_of_lt (by omega), or_parts _ _ _ h1]
  · have h3 : l * 2 ^ s / 18446744073709551616 = l / 2 ^ (64 - s) := by
      conv => lhs; rw [hp]
      rw [Nat.mul_comm l, Nat.mul_div_mul_left _ _ (Nat.two_pow_pos _)]
    have h4 := Nat.div_add_mod (l * 2 ^ s) 18446744073709551616
    rw [h3] at h4
    rw [Nat.add_mul, Nat.add_mul]
    have h5 : h * 18446744073709551616 * 2 ^ s = h * 2 ^ s * 18446744073709551616 := Nat.mul_right_comm _ _ _
    omega
/-- The shift that brings the highest bit up. -/
theorem norm_word (y : Nat) (h0 : y ≠ 0) (hy : y < 18446744073709551616) : bl y ≤ 64 ∧ y * 2 ^ (64 - bl y) < 18446744073709551616 ∧ 9223372036854775808 ≤ y * 2 ^ (64 - bl y) := by
  have h1 : bl y ≤ 64 := (bl_le_iff y 64).2 hy
  have h2 := bl_lt y
  have h3 := bl_le_self y h0
  have h4 := bl_pos y h0
  have hp : (18446744073709551616 : Nat) = 2 ^ bl y * 2 ^ (64 - bl y) := by rw [← Nat.pow_add, show bl y + (64 - bl y) = 64 by omega]
  have hp2 : (9223372036854775808 : Nat) = 2 ^ (bl y - 1) * 2 ^ (64 - bl y) := by rw [← Nat.pow_add, show bl y - 1 + (64 - bl y) = 63 by omega]
  refine ⟨h1, ?_, ?_⟩
  · rw [hp]; exact Nat.mul_lt_mul_of_pos_right h2 (Nat.two_pow_pos _)
  · rw [hp2]; exact Nat.mul_le_mul_right _ h3
end Go.Proofs.Ytfohihjeemmedaa
