/- Shifts of wide numbers: the plain law. The walk of package wide's Shift. -/
import Derived.Test.YtdipecepgfaokaaBX
import Derived.Test.YtdipecepgfaokaaBY
namespace Go.Proofs.Ytdipecepgfaokaa
set_option linter.unusedSimpArgs false
set_option linter.unusedVariables false
open Go.RowKit

/-- A number times a power of two, down. -/
def WI.shl (x : WI) (k : Int) : WI := match x.v with
  | none => WI.over
  | some z => if z = 0 then x else if 0 ≤ k then (if 1023 < k then WI.over else WI.of (z * ((2 ^ k.toNat : Nat) : Int))) else WI.of (z.fdiv ((2 ^ (-k).toNat : Nat) : Int))
theorem sgn_zero_iff (n : Bool) (N : Nat) : sgn n N = 0 ↔ N = 0 := by unfold sgn; split <;> omega
theorem WI.shl_still (x : WI) (k : Int) (h : x.ov = true ∨ x.sz = 0) : x.shl k = x := by
  unfold WI.shl
  cases hx : x.v with
  | none => exact WI.ext' (by rw [hx]; rfl)
  | some z =>
    have h0 : z = 0 := by
      rcases h with h | h
      · unfold WI.ov at h; rw [hx] at h; cases h
      · unfold WI.sz at h; rw [hx] at h; simp only at h; omega
    simp only [h0, if_true]
theorem WI.shl_over (x : WI) (k : Int) (h : x.ov = false) (h0 : x.sz ≠ 0) (hk : 1023 < k) : x.shl k = WI.over := by
  unfold WI.shl; rw [WI.some_of_ov h]
  have h1 : ¬ sgn x.ng x.sz = 0 := fun e => h0 ((sgn_zero_iff _ _).1 e)
  simp only [h1, if_false]
  rw [if_pos (by omega), if_pos hk]
theorem WI.shl_up (x : WI) (k : Nat) (h : x.ov = false) (h0 : x.sz ≠ 0) (hk : k ≤ 1023) : x.shl (k : Int) = WI.of (sgn x.ng (x.sz * 2 ^ k)) := by
  unfold WI.shl; rw [WI.some_of_ov h]
  have h1 : ¬ sgn x.ng x.sz = 0 := fun e => h0 ((sgn_zero_iff _ _).1 e)
  simp only [h1, if_false]
  rw [if_pos (by omega), if_neg (by omega), Int.toNat_natCast]
  congr 1
  unfold sgn
  cases x.ng
  · simp
  · simp [Int.neg_mul]
theorem bl_shift (N k : Nat) (h : N ≠ 0) : bl (N * 2 ^ k) = bl N + k := by
  have h1 := bl_lt N
  have h2 := bl_le_self N h
  have h3 := bl_pos N h
  refine bl_unique _ _ ?_ (.inr ?_)
  · rw [Nat.pow_add]; exact Nat.mul_lt_mul_of_pos_right h1 (Nat.two_pow_pos k)
  · rw [show bl N + k - 1 = (bl N - 1) + k by omega, Nat.pow_add]; exact Nat.mul_le_mul_right _ h2
theorem WI.shl_big (x : WI) (k : Int) (h : x.ov = false) (h0 : x.sz ≠ 0) (hk0 : 0 ≤ k) (hk : 1023 - (bl x.sz : Int) < k) : x.shl k = WI.over := by
  rcases Int.lt_or_le 1023 k with h1 | h1
  · exact WI.shl_over x k h h0 h1
  · obtain ⟨j, rfl⟩ : ∃ j : Nat, k = j := ⟨k.toNat, by omega⟩
    rw [WI.shl_up x j h h0 (by omega)]
    refine WI.of_over ?_
    rw [sgn_abs, ← lim_bl, bl_shift _ _ h0]
    omega
theorem far_down (x : WI) (j : Nat) (h : 1023 ≤ j) : x.sz < 2 ^ j := Nat.lt_of_lt_of_le x.sz_lt (lim_le_pow j h)
theorem WI.shl_down (x : WI) (k : Int) (j : Nat) (h : x.ov = false) (h0 : x.sz ≠ 0) (hk : k < 0) (hj : j = (-k).toNat ∨ (1023 ≤ j ∧ 1023 ≤ (-k).toNat)) :
    x.shl k = WI.of (sgn x.ng (if x.ng && lost x.sz j then x.sz / 2 ^ j + 1 else x.sz / 2 ^ j)) := by
  have e : x.sz / 2 ^ (-k).toNat = x.sz / 2 ^ j ∧ x.sz % 2 ^ (-k).toNat = x.sz % 2 ^ j := by
    rcases hj with rfl | ⟨h1, h2⟩
    · exact ⟨rfl, rfl⟩
    · have a := far_down x _ h1
      have b := far_down x _ h2
      exact ⟨by rw [Nat.div_eq_of_lt a, Nat.div_eq_of_lt b], by rw [Nat.mod_eq_of_lt a, Nat.mod_eq_of_lt b]⟩
  unfold WI.shl; rw [WI.some_of_ov h]
  have h1 : ¬ sgn x.ng x.sz = 0 := fun e => h0 ((sgn_zero_iff _ _).1 e)
  simp only [h1, if_false]
  rw [if_neg (by omega)]
  have h2 := sgn_fdiv x.ng false x.sz (2 ^ (-k).toNat) (Nat.ne_of_gt (Nat.two_pow_pos _))
  rw [show sgn false (2 ^ (-k).toNat) = ((2 ^ (-k).toNat : Nat) : Int) from rfl] at h2
  rw [h2, e.1, e.2]
  unfold lost
  simp
end Go.Proofs.Ytdipecepgfaokaa
namespace Go.Proofs.Ytdipecepgfaokaa
open Go.RowKit

theorem lim_le_lt {N : Nat} (h : bl N ≤ 1023) : N < W16 := Nat.lt_of_lt_of_le ((lim_bl N).1 h) lim_le
end Go.Proofs.Ytdipecepgfaokaa
