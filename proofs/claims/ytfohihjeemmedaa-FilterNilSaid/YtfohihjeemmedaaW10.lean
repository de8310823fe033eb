/- The walk of package wide's step: one digit of a quotient. -/
import Derived.Test.YtfohihjeemmedaaW9
import Derived.Lib.QuietBelow
namespace Go.Proofs.Ytfohihjeemmedaa
open Go.RowKit

set_option maxRecDepth 100000 in
set_option maxHeartbeats 1000000 in
theorem div64_0 (l y : Nat) (w : World) (hy : y < 18446744073709551616) (hl : l < 18446744073709551616) (h0 : y ≠ 0) :
    Calls Try.prog 108 #[.int .u64 0, .int .u64 (l : Int), .int .u64 (y : Int)] w fun e w' => e = .returned (.tuple #[.int .u64 ((l / y : Nat) : Int), .int .u64 ((l % y : Nat) : Int)]) ∧ Below w.heap.size w w' := by
  obtain ⟨q, hq⟩ : ∃ q, q = l / y := ⟨_, rfl⟩
  obtain ⟨r, hr⟩ : ∃ r, r = l % y := ⟨_, rfl⟩
  have i1 : ¬ ((y : Int) = 0) := by omega
  have i2 : ¬ (y : Int) ≤ 0 := by omega
  have a1 : (l : Int).tdiv (y : Int) = (q : Int) := by rw [nat_tdiv, hq]
  have a2 : (l : Int) / (y : Int) = (q : Int) := by rw [← Int.natCast_ediv, hq]
  have a3 : IntKind.u64.wrap (q : Int) = (q : Int) := wrap_nat _ (by rw [hq]; exact Nat.lt_of_le_of_lt (Nat.div_le_self _ _) hl)
  have a4 : (l : Int).tmod (y : Int) = (r : Int) := by rw [Int.tmod_eq_emod_of_nonneg (by omega), hr]; rfl
  have a5 : (l : Int) % (y : Int) = (r : Int) := by rw [hr]; rfl
  have a6 : IntKind.u64.wrap (r : Int) = (r : Int) := wrap_nat _ (by rw [hr]; exact Nat.lt_of_le_of_lt (Nat.mod_le _ _) hl)
  rw [← hq, ← hr]
  clear hq hr hy hl h0
  go_enter Try.func108, Try.ntmps108
  go_wp2_with fail
  go_quiet (fail)
  go_wp2_with fail
  go_ret2
  exact ⟨rfl, (by repeat (first | exact Below.refl _ _ | exact Below_of_hid (by assumption) | refine Below.drew ?_ | refine below_drewN ?_ _ | refine Below_putRow ?_ (by first | omega | (simp; done) | (simp; omega) | fail) _ _ | refine Below.alloc ?_ (by first | omega | (simp; done) | (simp; omega) | fail) _ | refine Below.setCell ?_ (by first | omega | (simp; done) | (simp; omega) | fail) _ | refine Below.trans ?_ (Below.mono (by assumption) (by first | omega | (simp; done) | (simp; omega) | fail))))⟩
/-- math/bits.Div64, the upper word below the divisor. -/
theorem div64_g (h l y q r : Nat) (w : World) (hh : h < y) (hy : y < 18446744073709551616) (hl : l < 18446744073709551616) (hq : q = (h * 18446744073709551616 + l) / y) (hr : r = (h * 18446744073709551616 + l) % y) :
    Calls Try.prog 108 #[.int .u64 (h : Int), .int .u64 (l : Int), .int .u64 (y : Int)] w fun e w' => e = .returned (.tuple #[.int .u64 (q : Int), .int .u64 (r : Int)]) ∧ Below w.heap.size w w' := by
  subst hq; subst hr
  rcases Nat.eq_zero_or_pos h with rfl | h0
  · have := div64_0 l y w hy hl (by omega)
    rw [Nat.zero_mul, Nat.zero_add]
    exact this
  · exact div64_c h l y w hh hy hl (by omega)
end Go.Proofs.Ytfohihjeemmedaa
