/- The walks of package wide's Div, Cmp, Int64. -/
import Derived.Test.YtfohihjeemmedaaW14
namespace Go.Proofs.Ytfohihjeemmedaa
open Go.RowKit

/-- divide. -/
theorem divide_c (N M : Nat) (w : World) (hN : N < W16) (hM : M < W16) (h0 : M ≠ 0) :
    Calls Try.prog 94 #[.agg (rowW 16 N), .agg (rowW 16 M)] w fun e w' => e = .returned (.tuple #[.agg (rowW 16 (N / M)), .agg (rowW 16 (N % M))]) ∧ Below w.heap.size w w' := by
  rcases Nat.lt_or_ge N M with h | h
  · exact divide_lt N M w hN hM h
  · by_cases h1 : np M ≤ 1
    · exact divide_one N M w hN hM h h0 ((np_le_iff M 1).1 h1)
    · exact divide_gen N M _ _ w hN hM h rfl rfl (by omega)

/-- A number by another one, down: the quotient, why there is none. -/
def WI.div (x y : WI) : WI × Int :=
  match x.v, y.v with
  | some a, some b => if b = 0 then (WI.of 0, 1) else (WI.of (a.fdiv b), 0)
  | _, _ => (WI.of 0, 2)
theorem WI.of_0 : (WI.of 0).cells = cellsI false false 0 := by
  have := WI.of_sgn (n := false) (N := 0) (by rw [bl_zero]; omega)
  exact this
theorem WI.div_over (x y : WI) (h : x.ov = true ∨ y.ov = true) : x.div y = (WI.of 0, 2) := by
  unfold WI.div; unfold WI.ov at h
  cases hx : x.v <;> cases hy : y.v <;> simp_all
theorem WI.div_zero (x y : WI) (hx : x.ov = false) (hy : y.ov = false) (h : y.sz = 0) : x.div y = (WI.of 0, 1) := by
  unfold WI.div; rw [WI.some_of_ov hx, WI.some_of_ov hy, h]; simp [sgn]
theorem fdiv_nat (a b : Nat) : (a : Int).fdiv (b : Int) = ((a / b : Nat) : Int) := by
  rw [Int.fdiv_eq_ediv_of_nonneg _ (by omega), Int.natCast_ediv]
theorem sgn_fdiv (n m : Bool) (N M : Nat) (hM : M ≠ 0) : (sgn n N).fdiv (sgn m M) = sgn (n != m) (if (n != m) && decide (N % M ≠ 0) then N / M + 1 else N / M) := by
  have hdm := Nat.div_add_mod N M
  have hlt := Nat.mod_lt N (Nat.pos_of_ne_zero hM)
  have key : ∀ q : Nat, q = (if decide (N % M ≠ 0) then N / M + 1 else N / M) → (-(N : Int)).fdiv (M : Int) = -(q : Int) := by
    intro q hq
    rw [Int.fdiv_eq_ediv_of_nonneg _ (by omega)]
    by_cases h0 : N % M = 0
    · have hq' : q = N / M := by rw [hq]; simp [h0]
      rw [hq']
      have e : -(N : Int) = -((N / M : Nat) : Int) * (M : Int) := by
        rw [h0, Nat.add_zero] at hdm
        conv => lhs; rw [← hdm]
        rw [Int.natCast_mul, Int.neg_mul, Int.mul_comm]
      rw [e, Int.mul_ediv_cancel _ (by omega)]
    · have hq' : q = N / M + 1 := by rw [hq]; simp [h0]
      rw [hq']
      have e : -(N : Int) = ((M - N % M : Nat) : Int) + (-((N / M + 1 : Nat) : Int)) * (M : Int) := by
        have e1 : (N : Int) = (M : Int) * ((N / M : Nat) : Int) + ((N % M : Nat) : Int) := by rw [← Int.natCast_mul, ← Int.natCast_add, hdm]
        rw [Int.ofNat_sub (Nat.le_of_lt hlt)]
        conv => lhs; rw [e1]
        rw [Int.natCast_add]
        grind
      rw [e, Int.add_mul_ediv_right _ _ (by omega), Int.ediv_eq_zero_of_lt (by omega) (by omega)]
      omega
  cases n <;> cases m <;> simp only [sgn, Bool.false_eq_true, if_true, if_false, bne_self_eq_false, Bool.false_and, Bool.true_bne, Bool.false_bne, Bool.not_false, Bool.true_and]
  · exact fdiv_nat N M
  · rw [show (N : Int).fdiv (-(M : Int)) = (-(N : Int)).fdiv (M : Int) by rw [← Int.neg_fdiv_neg, Int.neg_neg]]
    exact key _ rfl
  · exact key _ rfl
  · rw [Int.neg_fdiv_neg]; exact fdiv_nat N M
theorem WI.div_some (x y : WI) (hx : x.ov = false) (hy : y.ov = false) (h : y.sz ≠ 0) :
    x.div y = (WI.of (sgn (x.ng != y.ng) (if (x.ng != y.ng) && decide (x.sz % y.sz ≠ 0) then x.sz / y.sz + 1 else x.sz / y.sz)), 0) := by
  unfold WI.div; rw [WI.some_of_ov hx, WI.some_of_ov hy]
  have h0 : ¬ sgn y.ng y.sz = 0 := by unfold sgn; split <;> omega
  simp only [h0, if_false]
  rw [sgn_fdiv _ _ _ _ h]
end Go.Proofs.Ytfohihjeemmedaa
