/- '==' between two rows of words. No program in sight. -/
import Derived.Test.YtfohihjeemmedaaEnc
namespace Go.Proofs.Ytfohihjeemmedaa
open Go.RowKit

section
variable {P : Program}
theorem run_part_row (e : TypeId) (he : P.underlying e = some (.int .u64)) (w : World) (n N i : Nat) (h : i < n) :
    (part e (rowW n N) i).run P w = .ok (.int .u64 (wd N i)) w := by
  have hagg : (isAgg e).run P w = .ok false w := by
    unfold isAgg; rw [Sem.run_bind, run_underlying he w]; rfl
  unfold part
  rw [Sem.run_bind, hagg]
  simp only [Result.andThen_ok, Bool.false_eq_true, if_false, rowW_get n N i h]
  rfl
theorem equalIn_words (d : Nat) (e : TypeId) (he : P.underlying e = some (.int .u64)) (n N M : Nat) :
    ∀ (l : List Nat) (w : World), (∀ i ∈ l, i < n) →
    ((forIn (m := Sem) l ((none, ()) : Option Bool × Unit) fun i _ => do
        let a ← part e (rowW n N) (i * 1)
        let b ← part e (rowW n M) (i * 1)
        let r ← Op.equalIn (d + 1) e a b
        if (!r) = true then pure (ForInStep.done (some false, ())) else pure (ForInStep.yield (none, ()))) >>= fun r =>
          match r.fst with | some a => pure a | none => pure true).run P w = .ok (l.all fun i => decide (wd N i = wd M i)) w
  | [], w, _ => by simp
  | i :: l, w, h => by
    have ih := equalIn_words d e he n N M l w (fun j hj => h j (List.mem_cons_of_mem _ hj))
    have hi := h i (List.mem_cons_self ..)
    simp only [Sem.run_bind] at ih ⊢
    simp only [List.forIn_cons, Sem.run_bind, Nat.mul_one, run_part_row e he w n _ i hi, Result.andThen_ok, run_equalIn_int w d e .u64 .u64 _ _ he]
    by_cases hc : wd N i = wd M i
    · simp only [hc, beq_self_eq_true, Bool.not_true, Bool.false_eq_true, if_false, Sem.run_pure, Result.andThen_ok, List.all_cons, decide_true, Bool.true_and]
      simpa only [Nat.mul_one] using ih
    · have hb : (wd N i == wd M i) = false := by simp [hc]
      simp [hb, hc, Result.andThen_ok]
theorem run_equalIn_row (d : Nat) (t e : TypeId) (n N M : Nat) (w : World) (hu : P.underlying t = some (.array n e)) (he : P.underlying e = some (.int .u64)) (hs : (P.info? e).map (·.size) = some 1) :
    (Op.equalIn (d + 2) t (.agg (rowW n N)) (.agg (rowW n M))).run P w = .ok ((List.range n).all fun i => decide (wd N i = wd M i)) w := by
  have hz : (sizeOf e).run P w = .ok 1 w := by
    cases hq : P.info? e with
    | none => simp [hq] at hs
    | some i => have : i.size = 1 := by simpa [hq] using hs
                simp [sizeOf, typeInfo, hq, this]
  have key := equalIn_words d e he n N M (List.range n) w (fun i hi => List.mem_range.1 hi)
  rw [Op.equalIn, Sem.run_bind, run_underlying hu]
  simp only [Result.andThen_ok, Sem.run_bind, hz]
  simp only [Sem.run_bind] at key
  rw [Std.Legacy.Range.forIn_eq_forIn_range']
  simp only [Std.Legacy.Range.size, Nat.sub_zero, Nat.add_sub_cancel, Nat.div_one, ← List.range_eq_range']
  refine Eq.trans ?_ key
  congr 1
  funext a w'
  cases a.fst <;> rfl
end
theorem words_zero (N : Nat) (hN : N < W16) : ((List.range 16).all fun i => decide (wd N i = wd 0 i)) = decide (N = 0) := by
  by_cases h : N = 0
  · subst h; simp
  · simp only [h, decide_false]
    rw [Bool.eq_false_iff]
    intro hall
    rw [List.all_eq_true] at hall
    apply h
    refine eq_of_wdn 16 N 0 (LtW.of16 hN) (LtW.of16 W16_pos) fun i hi => ?_
    have := of_decide_eq_true (hall i (List.mem_range.2 hi))
    unfold wd at this; omega
/-- Are two sizes the same, word by word? -/
def eqW (N M : Nat) : Bool := (List.range 16).all fun i => decide (wd N i = wd M i)
theorem eqW_zero (N : Nat) (hN : N < W16) : eqW N 0 = decide (N = 0) := words_zero N hN
end Go.Proofs.Ytfohihjeemmedaa
