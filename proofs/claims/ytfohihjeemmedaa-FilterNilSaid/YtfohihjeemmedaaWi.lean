/- Wide numbers that are small enough: sums and products are those of whole numbers. No program in sight. -/
import Derived.Test.YtfohihjeemmedaaEnc
namespace Go.Proofs.Ytfohihjeemmedaa

/-- At most 2^k. -/
def Sm (k : Nat) (z : Int) : Prop := z.natAbs ≤ 2 ^ k
theorem Sm.mul {j k : Nat} {a b : Int} (ha : Sm j a) (hb : Sm k b) : Sm (j + k) (a * b) := by
  unfold Sm at *; rw [Int.natAbs_mul, Nat.pow_add]; exact Nat.mul_le_mul ha hb
theorem Sm.mono {j k : Nat} {a : Int} (ha : Sm j a) (h : j ≤ k) : Sm k a := Nat.le_trans ha (pow2_le j k h)
theorem Sm.add {k : Nat} {a b : Int} (ha : Sm k a) (hb : Sm k b) : Sm (k + 1) (a + b) := by
  unfold Sm at *; rw [Nat.pow_succ]; omega
theorem Sm.neg {k : Nat} {a : Int} (ha : Sm k a) : Sm k (-a) := by
  unfold Sm at *; rw [Int.natAbs_neg]; exact ha
theorem Sm.sub {k : Nat} {a b : Int} (ha : Sm k a) (hb : Sm k b) : Sm (k + 1) (a - b) := by
  rw [Int.sub_eq_add_neg]; exact ha.add hb.neg
theorem Sm.lim {k : Nat} {a : Int} (ha : Sm k a) (h : k ≤ 1022) : a.natAbs < lim := by
  have key : ∀ n, k < n → a.natAbs < 2 ^ n := fun n hn => Nat.lt_of_le_of_lt ha (Nat.pow_lt_pow_right (by decide) hn)
  rw [lim_eq 1023 rfl]; exact key 1023 (by omega)
theorem Sm.of64 {z : Int} (h1 : -9223372036854775808 ≤ z) (h2 : z ≤ 9223372036854775807) : Sm 63 z := by
  unfold Sm; omega
theorem WI.of_add {a b : Int} (ha : a.natAbs < lim) (hb : b.natAbs < lim) : (WI.of a).add (WI.of b) = WI.of (a + b) := by
  unfold WI.add; rw [WI.of_v ha, WI.of_v hb]
theorem WI.of_neg {a : Int} (ha : a.natAbs < lim) : (WI.of a).neg = WI.of (-a) := by
  unfold WI.neg; rw [WI.of_v ha]
theorem WI.of_sub {a b : Int} (ha : a.natAbs < lim) (hb : b.natAbs < lim) : (WI.of a).sub (WI.of b) = WI.of (a - b) := by
  unfold WI.sub; rw [WI.of_neg hb, WI.of_add ha (by rw [Int.natAbs_neg]; exact hb), Int.sub_eq_add_neg]
theorem WI.of_mul {a b : Int} (ha : a.natAbs < lim) (hb : b.natAbs < lim) : (WI.of a).mul (WI.of b) = WI.of (a * b) := by
  unfold WI.mul; rw [WI.of_v ha, WI.of_v hb]
theorem WI.of_sign {a : Int} (ha : a.natAbs < lim) : (WI.of a).sign = a.sign := by
  unfold WI.sign; rw [WI.of_v ha]
end Go.Proofs.Ytfohihjeemmedaa
