/- The walks of RootSquares and of what package root's laws' awake says. -/
import Derived.Test.YtkfdfgecfedeiaaT3
import Derived.Test.YtkfdfgecfedeiaaTp
namespace Go.Proofs.Ytkfdfgecfedeiaa
open Go.RowKit

theorem rsqrt_v (m r : Nat) (hm : m ≤ 9223372036854775807) (hr : r = rt m) (w : World) :
    Calls Try.prog 8 #[.int .i64 (m : Int)] w fun e w' => e = .returned (.int .i64 (r : Int)) ∧ Below w.heap.size w w' := by
  have h := rsqrt_c (m : Int) (by omega) (by omega) w
  rw [show max 0 (m : Int) = (m : Int) by omega, wdown_nat m (lim_small (by omega))] at h
  have := rt_le m
  have e : (fitI (rt m : Nat)).1 = (r : Int) := by unfold fitI; rw [if_pos (by omega), hr]
  rw [e] at h; exact h
theorem rup_v (m r : Nat) (hm : m ≤ 9223372036854775807) (hr : r = up m) (w : World) :
    Calls Try.prog 9 #[.int .i64 (m : Int)] w fun e w' => e = .returned (.int .i64 (r : Int)) ∧ Below w.heap.size w w' := by
  have h := rup_c (m : Int) (by omega) (by omega) w
  have h3 : rt m < 9223372036854775807 := by
    have := rt_lt m 3037000500 (by omega)
    omega
  rw [show max 0 (m : Int) = (m : Int) by omega, wup_nat m (lim_small (by omega)) h3] at h
  rw [hr]; exact h

set_option maxHeartbeats 1000000 in
theorem awake_c (w : World) : Calls Try.prog 10 #[] w fun e w' => e = .returned (.bool true) ∧ Below w.heap.size w w' := by
  have r1 : Hid (2 = rt 8) := (rt_unique (by decide) (by decide)).symm
  have r2 : Hid (3 = up 8) := (up_unique (by decide) (by decide)).symm
  have r3 : Hid (3 = up 9) := (up_unique (by decide) (by decide)).symm
  go_enter Try.func10, Try.ntmps10
  go_wp2_with fail
  refine (rsqrt_v 8 2 (by decide) r1.out _).mono ?_; rintro e w1 ⟨rfl, hb1⟩; have s1 := hb1.size
  go_wp2_with fail
  refine (rup_v 8 3 (by decide) r2.out _).mono ?_; rintro e w2 ⟨rfl, hb2⟩; have s2 := hb2.size
  go_wp2_with fail
  refine (rup_v 9 3 (by decide) r3.out _).mono ?_; rintro e w3 ⟨rfl, hb3⟩; have s3 := hb3.size
  go_wp2_with fail
  go_ret
  exact ⟨rfl, (by repeat (first | exact Below.refl _ _ | exact Below_of_hid (by assumption) | refine Below.drew ?_ | refine below_drewN ?_ _ | refine Below_putRow ?_ (by first | omega | (simp; done) | (simp; omega) | fail) _ _ | refine Below.alloc ?_ (by first | omega | (simp; done) | (simp; omega) | fail) _ | refine Below.setCell ?_ (by first | omega | (simp; done) | (simp; omega) | fail) _ | refine Below.trans ?_ (Below.mono (by assumption) (by first | omega | (simp; done) | (simp; omega) | fail))))⟩

theorem and_low (n : Int) (k m : Nat) (hk : k ≤ 63) (hm : m = 2 ^ k - 1) : bits .and .i64 n (m : Int) = n % (2 ^ k : Nat) := by
  have hp := Nat.two_pow_pos k
  have hle : 2 ^ k ≤ 9223372036854775808 := pow2_le k 63 hk
  have h1 : (BitVec.ofInt 64 n).toNat = (n % 18446744073709551616).toNat := by
    rw [BitVec.toNat_ofInt]; rfl
  have h2 : (BitVec.ofInt 64 (m : Int)).toNat = m := by
    rw [BitVec.ofInt_natCast, BitVec.toNat_ofNat]; exact Nat.mod_eq_of_lt (by omega)
  show IntKind.i64.wrap ((BitVec.ofInt 64 n &&& BitVec.ofInt 64 (m : Int)).toNat : Int) = _
  rw [BitVec.toNat_and, h1, h2, hm, Nat.and_two_pow_sub_one_eq_mod, IntKind.wrap_i64]
  have h3 : (((n % 18446744073709551616).toNat % 2 ^ k : Nat) : Int) = n % (2 ^ k : Nat) := by
    rw [Int.natCast_emod, Int.toNat_of_nonneg (by omega)]
    have hd : ((2 ^ k : Nat) : Int) ∣ 18446744073709551616 := by
      have : (18446744073709551616 : Nat) = 2 ^ k * 2 ^ (64 - k) := by rw [← Nat.pow_add, show k + (64 - k) = 64 by omega]
      refine ⟨((2 ^ (64 - k) : Nat) : Int), ?_⟩
      rw [← Int.natCast_mul, ← this]; rfl
    exact Int.emod_emod_of_dvd n hd
  rw [h3]
  have h4 : 0 ≤ n % ((2 ^ k : Nat) : Int) := Int.emod_nonneg _ (by omega)
  have h5 : n % ((2 ^ k : Nat) : Int) < ((2 ^ k : Nat) : Int) := Int.emod_lt_of_pos _ (by omega)
  omega
end Go.Proofs.Ytkfdfgecfedeiaa
