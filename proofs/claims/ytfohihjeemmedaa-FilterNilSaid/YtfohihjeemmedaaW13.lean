/- The walk of package wide's divide: the general case; Div. -/
import Derived.Test.YtfohihjeemmedaaW12
import Derived.Laws.CopyOwn
namespace Go.Proofs.Ytfohihjeemmedaa
open Go.RowKit

/-! ### A number shifted up, word by word -/
theorem fill_lt (N i s : Nat) : N % 2 ^ (64 * i) * 2 ^ s / 2 ^ (64 * i) < 2 ^ s := by
  rw [Nat.div_lt_iff_lt_mul (Nat.two_pow_pos _), Nat.mul_comm]
  exact Nat.mul_lt_mul_of_pos_left (Nat.mod_lt _ (Nat.two_pow_pos _)) (Nat.two_pow_pos _)
theorem fill_or (N i s : Nat) (hs : s ≤ 64) : (wdn (N % 2 ^ (64 * i) * 2 ^ s) i ||| (wdn N i * 2 ^ s % 18446744073709551616)) = wdn (N % 2 ^ (64 * i) * 2 ^ s) i + wdn N i * 2 ^ s % 18446744073709551616 ∧
    wdn (N % 2 ^ (64 * i) * 2 ^ s) i + wdn N i * 2 ^ s % 18446744073709551616 < 18446744073709551616 ∧ N % 2 ^ (64 * i) * 2 ^ s / 2 ^ (64 * i) + wdn N i * 2 ^ s % 18446744073709551616 < 18446744073709551616 := by
  have hp : (18446744073709551616 : Nat) = 2 ^ (64 - s) * 2 ^ s := by rw [← Nat.pow_add, show (64 - s) + s = 64 by omega]
  have h1 := fill_lt N i s
  have h2 : wdn (N % 2 ^ (64 * i) * 2 ^ s) i ≤ N % 2 ^ (64 * i) * 2 ^ s / 2 ^ (64 * i) := Nat.mod_le _ _
  have h3 : wdn N i * 2 ^ s % 18446744073709551616 = (wdn N i % 2 ^ (64 - s)) * 2 ^ s := by
    rw [hp, Nat.mul_mod_mul_right]
  have h4 : (wdn N i % 2 ^ (64 - s)) * 2 ^ s + 2 ^ s ≤ 18446744073709551616 := by
    have := Nat.mod_lt (wdn N i) (Nat.two_pow_pos (64 - s))
    calc (wdn N i % 2 ^ (64 - s)) * 2 ^ s + 2 ^ s = (wdn N i % 2 ^ (64 - s) + 1) * 2 ^ s := by rw [Nat.add_mul, Nat.one_mul]
      _ ≤ 2 ^ (64 - s) * 2 ^ s := Nat.mul_le_mul_right _ this
      _ = 18446744073709551616 := hp.symm
  rw [h3]
  refine ⟨?_, by omega, by omega⟩
  rw [Nat.or_comm, or_parts _ _ _ (Nat.lt_of_le_of_lt h2 h1), Nat.add_comm]
theorem fill_1 (N i s v : Nat) (hv : v = wdn (N % 2 ^ (64 * i) * 2 ^ s) i + wdn N i * 2 ^ s % 18446744073709551616) :
    setw (N % 2 ^ (64 * i) * 2 ^ s) i v = N % 2 ^ (64 * i) * 2 ^ s + wdn N i * 2 ^ s % 18446744073709551616 * 2 ^ (64 * i) := setw_add _ _ _ _ hv.symm
theorem fill_aux (a b c P B : Nat) : c + b * P + a * (P * B) = c + (B * a + b) * P := by grind
theorem fill_2 (N i s : Nat) (hs : s ≤ 64) : setw (N % 2 ^ (64 * i) * 2 ^ s + wdn N i * 2 ^ s % 18446744073709551616 * 2 ^ (64 * i)) (i + 1) (wdn N i / 2 ^ (64 - s)) = N % 2 ^ (64 * (i + 1)) * 2 ^ s := by
  have h3 := (fill_or N i s hs).2.2
  have hx : N % 2 ^ (64 * i) * 2 ^ s + wdn N i * 2 ^ s % 18446744073709551616 * 2 ^ (64 * i) < 2 ^ (64 * (i + 1)) := by
    rw [pow_succ64, Nat.mul_comm (2 ^ (64 * i)) 18446744073709551616, ← Nat.div_lt_iff_lt_mul (Nat.two_pow_pos _), Nat.add_mul_div_right _ _ (Nat.two_pow_pos _)]
    exact h3
  have h0 : wdn (N % 2 ^ (64 * i) * 2 ^ s + wdn N i * 2 ^ s % 18446744073709551616 * 2 ^ (64 * i)) (i + 1) + wdn N i / 2 ^ (64 - s) = wdn N i / 2 ^ (64 - s) := by
    rw [wdn_eq_zero_of_lt _ (i + 1) (i + 1) hx (Nat.le_refl _), Nat.zero_add]
  rw [setw_add _ _ _ _ h0, cut_succ N i, Nat.add_mul, pow_succ64]
  have hp : (18446744073709551616 : Nat) = 2 ^ s * 2 ^ (64 - s) := by rw [← Nat.pow_add, show s + (64 - s) = 64 by omega]
  have h4 : wdn N i * 2 ^ s / 18446744073709551616 = wdn N i / 2 ^ (64 - s) := by
    conv => lhs; rw [hp]
    rw [Nat.mul_comm (wdn N i), Nat.mul_div_mul_left _ _ (Nat.two_pow_pos _)]
  have h5 := Nat.div_add_mod (wdn N i * 2 ^ s) 18446744073709551616
  rw [h4] at h5
  have h6 : 2 ^ (64 * i) * wdn N i * 2 ^ s = (wdn N i * 2 ^ s) * 2 ^ (64 * i) := by rw [Nat.mul_comm (2 ^ (64 * i)), Nat.mul_right_comm]
  have h7 : wdn N i * 2 ^ s * 2 ^ (64 * i) = (18446744073709551616 * (wdn N i / 2 ^ (64 - s)) + wdn N i * 2 ^ s % 18446744073709551616) * 2 ^ (64 * i) := by rw [h5]
  rw [h6, h7]
  exact fill_aux _ _ _ _ _
theorem fill_s0 (N i s : Nat) (hs : s = 0) : N % 2 ^ (64 * i) * 2 ^ s + wdn N i * 2 ^ s % 18446744073709551616 * 2 ^ (64 * i) = N % 2 ^ (64 * (i + 1)) * 2 ^ s := by
  subst hs
  rw [Nat.pow_zero, Nat.mul_one, Nat.mul_one, Nat.mul_one, Nat.mod_eq_of_lt (wdn_lt N i), cut_succ, Nat.mul_comm (wdn N i)]
theorem rowW_zero17 : rowW 17 0 = #[.int .u64 0, .int .u64 0, .int .u64 0, .int .u64 0, .int .u64 0, .int .u64 0, .int .u64 0, .int .u64 0, .int .u64 0, .int .u64 0, .int .u64 0, .int .u64 0, .int .u64 0, .int .u64 0, .int .u64 0, .int .u64 0, .int .u64 0] := by
  simp [rowW, Array.ofFn_succ, wd_zero]
@[go_sem ↓] theorem zero_17 (w : World) : (zeroValue 155).run Try.prog w = .ok (.agg (rowW 17 0)) w := by
  rw [rowW_zero17]; exact Try.zeroValue155 w
end Go.Proofs.Ytfohihjeemmedaa
