/- The walks of RootSquares and of what package root's laws' awake says. -/
import Derived.Test.YtfohihjeemmedaaT3
import Derived.Test.YtfohihjeemmedaaTp
namespace Go.Proofs.Ytfohihjeemmedaa
open Go.RowKit

theorem rup_v (m r : Nat) (hm : m ≤ 9223372036854775807) (hr : r = up m) (w : World) :
    Calls Try.prog 41 #[.int .i64 (m : Int)] w fun e w' => e = .returned (.int .i64 (r : Int)) ∧ Below w.heap.size w w' := by
  have h := rup_c (m : Int) (by omega) (by omega) w
  have h3 : rt m < 9223372036854775807 := by
    have := rt_lt m 3037000500 (by omega)
    omega
  rw [show max 0 (m : Int) = (m : Int) by omega, wup_nat m (lim_small (by omega)) h3] at h
  rw [hr]; exact h


theorem and_low (n : Int) (k m : Nat) (hk : k ≤ 63) (hm : m = 2 ^ k - 1) : bits .and .i64 n (m : Int) = n % (2 ^ k : Nat) := by
  have hp := Nat.two_pow_pos k
  have hle : 2 ^ k ≤ 9223372036854775808 := pow2_le k 63 hk
  have h1 : (BitVec.ofInt 64 n).toNat = (n % 18446744073709551616).toNat := by
    rw [BitVec.toNat_ofInt]; rfl
  have h2 : (BitVec.ofInt 64 (m : Int)).toNat = m := by
    rw [BitVec.ofInt_natCast, BitVec.toNat_ofNat]; exact Nat.mod_eq_of_lt (by omega)
  show IntKind.i64.wrap ((BitVec.ofInt 64 n &&& BitVec.ofInt 64 (m : Int)).toNat : Int) = _
  rw [BitVec.toNat_and, h1, h2, hm, Nat.and_two_pow_sub_one_eq_mod, IntKind.wrap_i64]
  have h3 : (((n % 18446744073709551616).toNat % 2 ^ k : Nat) : Int) = n % (2 ^ k : Nat) := by
    rw [Int.natCast_emod, Int.toNat_of_nonneg (by omega)]
    have hd : ((2 ^ k : Nat) : Int) ∣ 18446744073709551616 := by
      have : (18446744073709551616 : Nat) = 2 ^ k * 2 ^ (64 - k) := by rw [← Nat.pow_add, show k + (64 - k) = 64 by omega]
      refine ⟨((2 ^ (64 - k) : Nat) : Int), ?_⟩
      rw [← Int.natCast_mul, ← this]; rfl
    exact Int.emod_emod_of_dvd n hd
  rw [h3]
  have h4 : 0 ≤ n % ((2 ^ k : Nat) : Int) := Int.emod_nonneg _ (by omega)
  have h5 : n % ((2 ^ k : Nat) : Int) < ((2 ^ k : Nat) : Int) := Int.emod_lt_of_pos _ (by omega)
  omega
end Go.Proofs.Ytfohihjeemmedaa
