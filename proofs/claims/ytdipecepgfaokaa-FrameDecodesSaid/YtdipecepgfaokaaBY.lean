/- The walks of package wide's Div, Cmp, Int64. The walks of package wide's Int64, Sqrt. The walk of package wide's Sqrt. The walks of package root. The walks of package root: Up, MulDiv, MulDivUp, fit, Floor, Ceil, Near. The walks of package root: fit, Floor, Ceil, Near. Plain laws of roots and quotients; package root's functions at whole numbers. No program in sight. The walks of RootSquares and of what package root's laws' awake says. -/
import Derived.Test.YtdipecepgfaokaaBX
import Derived.Deep.LoopGhost
import Derived.Deep.CutBlock
import Derived.Deep.Cut
import Derived.Test.YtdipecepgfaokaaBN
import Derived.Test.YtdipecepgfaokaaBA
namespace Go.Proofs.Ytdipecepgfaokaa
set_option linter.unusedSimpArgs false
set_option linter.unusedVariables false
open Go.RowKit

/-- The end of a walk whose results are a row of cells and a slot. -/
theorem bodyPost_row_t {P : Program} {fn : Func} {R : Ending → World → Prop} {a : Act} {w : World} {p u : Tmp} {ty : TypeId} {g : Nat} (n : Nat) (cs : Array Value) (v : Value) {d : TypeDesc}
    (h : fn.results = #[.cell p ty, .tmp u]) (hde : a.defers = []) (hp : a.tmps.getD p undef = .pointer (some ⟨g, 0, none⟩)) (hv : a.tmps.getD u undef = v)
    (hu : P.underlying ty = some d) (hd : d.isRow = true) (hi : (P.info? ty).map (·.size) = some n) (hg : w.row? g 0 n = some cs) (hR : R (.returned (.tuple #[.agg cs, v])) w) :
    bodyPost P fn R .ret a w := by
  refine bodyPost_ret (v := .tuple #[.agg cs, v]) ?_ hde hR
  rw [results_cell_tmp h, hp, hv]
  simp [asAddr, Result.andThen, run_loadVar_row? w g 0 n ty cs d hu hd hi hg]
theorem row_1 : (rowW 16 0).setIfInBounds 0 (.int .u64 1) = rowW 16 1 := row_one 1 (by decide)
/-- Which is less; false: one is over. -/
def WI.cmp (x y : WI) : Int × Bool :=
  match x.v, y.v with
  | some a, some b => (if a < b then -1 else if b < a then 1 else 0, true)
  | _, _ => (0, false)
theorem WI.cmp_over (x y : WI) (h : x.ov = true ∨ y.ov = true) : x.cmp y = (0, false) := by
  unfold WI.cmp; unfold WI.ov at h
  cases hx : x.v <;> cases hy : y.v <;> simp_all
theorem WI.ng_sz (x : WI) (h : x.ng = true) : x.sz ≠ 0 := by
  unfold WI.ng at h; unfold WI.sz
  cases hx : x.v <;> simp_all <;> omega
theorem WI.cmp_some (x y : WI) (hx : x.ov = false) (hy : y.ov = false) : x.cmp y = (if x.ng then (if y.ng then cmpN y.sz x.sz else -1) else (if y.ng then 1 else cmpN x.sz y.sz), true) := by
  have h1 := x.ng_sz
  have h2 := y.ng_sz
  unfold WI.cmp; rw [WI.some_of_ov hx, WI.some_of_ov hy]
  refine congrArg (fun t => (t, true)) ?_
  simp only [sgn, cmpN]
  cases hxn : x.ng with
  | true =>
    have h3 := h1 hxn
    cases hyn : y.ng with
    | true => simp only [if_true]; (repeat' split) <;> first | rfl | omega
    | false => simp only [if_true, Bool.false_eq_true, if_false]; (repeat' split) <;> first | rfl | omega
  | false =>
    cases hyn : y.ng with
    | true => have h4 := h2 hyn; simp only [if_true, Bool.false_eq_true, if_false]; (repeat' split) <;> first | rfl | omega
    | false => simp only [Bool.false_eq_true, if_false]; (repeat' split) <;> first | rfl | omega
end Go.Proofs.Ytdipecepgfaokaa
namespace Go.Proofs.Ytdipecepgfaokaa
open Go.RowKit

/-- A number as an int64; false: it does not fit. -/
def WI.i64 (x : WI) : Int × Bool :=
  match x.v with
  | some a => if -9223372036854775808 ≤ a ∧ a ≤ 9223372036854775807 then (a, true) else (0, false)
  | none => (0, false)
theorem WI.i64_over (x : WI) (h : x.ov = true) : x.i64 = (0, false) := by
  unfold WI.i64; unfold WI.ov at h
  cases hx : x.v <;> simp_all
theorem WI.i64_some (x : WI) (h : x.ov = false) : x.i64 = if x.sz ≤ 9223372036854775807 ∨ (x.sz = 9223372036854775808 ∧ x.ng = true) then (sgn x.ng x.sz, true) else (0, false) := by
  have h1 := x.ng_sz
  unfold WI.i64; rw [WI.some_of_ov h]
  have e : (-9223372036854775808 ≤ sgn x.ng x.sz ∧ sgn x.ng x.sz ≤ 9223372036854775807) ↔ (x.sz ≤ 9223372036854775807 ∨ (x.sz = 9223372036854775808 ∧ x.ng = true)) := by
    unfold sgn
    cases hn : x.ng with
    | true =>
      have := h1 hn
      simp only [if_true, and_true]
      omega
    | false => simp only [Bool.false_eq_true, if_false, and_false, or_false]; omega
  simp only [e]
@[simp] theorem WI.cells_g2 (x : WI) (h : 2 < x.cells.size) : x.cells[2] = .int .u64 (wd x.sz 0) := by
  have h1 : x.cells[2 + 0]? = _ := x.cells_word 0 (by decide)
  exact getElem_of_some h1 h
theorem wd0_small (N : Nat) (h : N < 18446744073709551616) : wd N 0 = (N : Int) := by
  unfold wd wdn; rw [Nat.mul_zero, Nat.pow_zero, Nat.div_one]; omega
/-- A number's root, down. -/
def WI.sqrt (x : WI) : WI × Int :=
  match x.v with
  | some a => if a < 0 then (WI.of 0, 1) else (WI.of (rt a.toNat : Nat), 0)
  | none => (WI.of 0, 2)
theorem WI.sqrt_over (x : WI) (h : x.ov = true) : x.sqrt = (WI.of 0, 2) := by
  unfold WI.sqrt; unfold WI.ov at h
  cases hx : x.v <;> simp_all
theorem WI.sqrt_neg (x : WI) (h : x.ov = false) (hn : x.ng = true) : x.sqrt = (WI.of 0, 1) := by
  have := x.ng_sz hn
  unfold WI.sqrt; rw [WI.some_of_ov h]
  simp only [sgn, hn, if_true]
  rw [if_pos (by omega)]
theorem WI.sqrt_pos (x : WI) (h : x.ov = false) (hn : x.ng = false) : x.sqrt = (WI.of (rt x.sz : Nat), 0) := by
  unfold WI.sqrt; rw [WI.some_of_ov h]
  simp only [sgn, hn, Bool.false_eq_true, if_false]
  rw [if_neg (by omega)]
  rfl
end Go.Proofs.Ytdipecepgfaokaa
namespace Go.Proofs.Ytdipecepgfaokaa
open Go.RowKit

end Go.Proofs.Ytdipecepgfaokaa
namespace Go.Proofs.Ytdipecepgfaokaa
open Go.RowKit

/-- A quotient that fits. -/
def narrowV (x : WI) (e : Int) : Int × Int := if e ≠ 0 then (0, e) else if x.i64.2 then (x.i64.1, 0) else (0, 2)
/-- A quotient, up. -/
def aboveV (x y : WI) : WI × Int := ((x.neg.div y).1.neg, (x.neg.div y).2)
def wdownV (x : WI) : Int × Int := narrowV x.sqrt.1 x.sqrt.2
def wupV (x : WI) : Int × Int := narrowV (if x.sqrt.2 = 0 ∧ ((x.sqrt.1.mul x.sqrt.1).cmp x).1 < 0 then x.sqrt.1.add (WI.of 1) else x.sqrt.1) x.sqrt.2
def mulDivV (a b c : Int) : Int × Int := narrowV (((WI.of a).mul (WI.of b)).div (WI.of c)).1 (((WI.of a).mul (WI.of b)).div (WI.of c)).2
def mulDivUpV (a b c : Int) : Int × Int := narrowV (aboveV ((WI.of a).mul (WI.of b)) (WI.of c)).1 (aboveV ((WI.of a).mul (WI.of b)) (WI.of c)).2
def fitV (x y : WI) : Int := if x.ov = true ∨ y.ov = true then 2 else if y.sign ≤ 0 then 1 else 0
def floorV (x y : WI) : Int × Int := if fitV x y ≠ 0 then (0, fitV x y) else narrowV (x.div y).1 (x.div y).2
def ceilV (x y : WI) : Int × Int := if fitV x y ≠ 0 then (0, fitV x y) else narrowV (aboveV x y).1 (aboveV x y).2
def nearV (x y : WI) : Int × Int := if fitV x y ≠ 0 then (0, fitV x y) else floorV ((x.add x).add y) (y.add y)
end Go.Proofs.Ytdipecepgfaokaa
namespace Go.Proofs.Ytdipecepgfaokaa
open Go.RowKit




end Go.Proofs.Ytdipecepgfaokaa
namespace Go.Proofs.Ytdipecepgfaokaa
open Go.RowKit

end Go.Proofs.Ytdipecepgfaokaa
namespace Go.Proofs.Ytdipecepgfaokaa

/-- The root, up. -/
def up (n : Nat) : Nat := if rt n * rt n < n then rt n + 1 else rt n
theorem up_spec (n : Nat) : n ≤ up n * up n ∧ (up n = 0 ∨ (up n - 1) * (up n - 1) < n) := by
  have h := rt_spec n
  unfold up
  split
  · rename_i h1
    exact ⟨by omega, .inr (by rw [Nat.add_sub_cancel]; exact h1)⟩
  · rename_i h1
    refine ⟨by omega, ?_⟩
    rcases Nat.eq_zero_or_pos (rt n) with h2 | h2
    · exact .inl h2
    · right
      have : (rt n - 1) * (rt n - 1) < rt n * rt n := Nat.mul_lt_mul'' (by omega) (by omega)
      omega
theorem up_unique {n r : Nat} (h1 : n ≤ r * r) (h2 : r = 0 ∨ (r - 1) * (r - 1) < n) : up n = r := by
  have ⟨a, b⟩ := up_spec n
  rcases Nat.lt_trichotomy (up n) r with h | h | h
  · rcases h2 with h2 | h2
    · omega
    · have := sq_mono (show up n ≤ r - 1 by omega); omega
  · exact h
  · rcases b with b | b
    · omega
    · have := sq_mono (show r ≤ up n - 1 by omega); omega
theorem rt_le (n : Nat) : rt n ≤ n := by
  have h := rt_spec n
  rcases Nat.eq_zero_or_pos (rt n) with h1 | h1
  · omega
  · have : rt n * 1 ≤ rt n * rt n := Nat.mul_le_mul_left _ h1
    omega
theorem rt_mono {n m : Nat} (h : n ≤ m) : rt n ≤ rt m := by
  have h1 := rt_spec n
  have h2 := rt_spec m
  rcases Nat.lt_or_ge (rt m) (rt n) with h3 | h3
  · have := sq_mono (show rt m + 1 ≤ rt n from h3); omega
  · exact h3
theorem up_mono {n m : Nat} (h : n ≤ m) : up n ≤ up m := by
  have ⟨a, b⟩ := up_spec n
  have ⟨c, d⟩ := up_spec m
  rcases Nat.lt_or_ge (up m) (up n) with h3 | h3
  · rcases b with b | b
    · omega
    · have := sq_mono (show up m ≤ up n - 1 by omega); omega
  · exact h3
theorem rt_le_up (n : Nat) : rt n ≤ up n ∧ up n ≤ rt n + 1 := by unfold up; split <;> omega
/-- A root of a number of so many bits. -/
theorem rt_lt (n k : Nat) (h : n < k * k) : rt n < k := by
  have h1 := rt_spec n
  rcases Nat.lt_or_ge (rt n) k with h2 | h2
  · exact h2
  · have := sq_mono h2; omega
theorem up_le (n k : Nat) (h : n ≤ k * k) : up n ≤ k := by
  have ⟨a, b⟩ := up_spec n
  rcases Nat.lt_or_ge k (up n) with h2 | h2
  · rcases b with b | b
    · omega
    · have := sq_mono (show k ≤ up n - 1 by omega); omega
  · exact h2
/-! ### Numbers that fit -/
/-- An int64, or that it is over. -/
def fitI (q : Int) : Int × Int := if -9223372036854775808 ≤ q ∧ q ≤ 9223372036854775807 then (q, 0) else (0, 2)
theorem WI.of_i64 (q : Int) (h : q.natAbs < lim) : (WI.of q).i64 = if -9223372036854775808 ≤ q ∧ q ≤ 9223372036854775807 then (q, true) else (0, false) := by
  unfold WI.i64; rw [WI.of_v h]
theorem narrow_of (q : Int) (h : q.natAbs < lim) : narrowV (WI.of q) 0 = fitI q := by
  unfold narrowV fitI
  rw [WI.of_i64 q h]
  simp only [ne_eq, not_true_eq_false, if_false]
  split <;> simp
theorem narrow_err (x : WI) (e : Int) (h : e ≠ 0) : narrowV x e = (0, e) := by unfold narrowV; rw [if_pos h]
theorem lim_small {n : Nat} (h : n < 18446744073709551616) : n < lim := small_lim h
theorem WI.of_sqrt (n : Nat) (h : n < lim) : (WI.of (n : Int)).sqrt = (WI.of (rt n : Nat), 0) := by
  unfold WI.sqrt; rw [WI.of_v (by simpa using h)]
  simp only
  rw [if_neg (by omega)]
  rfl
theorem wdown_nat (n : Nat) (h : n < lim) : wdownV (WI.of (n : Int)) = fitI (rt n : Nat) := by
  unfold wdownV; rw [WI.of_sqrt n h]
  exact narrow_of _ (by have := rt_le n; simp; omega)
theorem WI.of_cmp (a b : Int) (ha : a.natAbs < lim) (hb : b.natAbs < lim) : (WI.of a).cmp (WI.of b) = (if a < b then -1 else if b < a then 1 else 0, true) := by
  unfold WI.cmp; rw [WI.of_v ha, WI.of_v hb]
theorem lim_two {n : Nat} (h : n < 18446744073709551616) : n * n < lim := by
  have h1 : n * n ≤ 18446744073709551615 * 18446744073709551615 := Nat.mul_le_mul (by omega) (by omega)
  have h2 : ∀ k, 128 ≤ k → 18446744073709551615 * 18446744073709551615 < 2 ^ k := fun k hk => Nat.lt_of_lt_of_le (by decide) (pow2_le 128 k hk)
  have h3 : ∀ k, k = 1023 → 18446744073709551615 * 18446744073709551615 < lim := fun k hk => by rw [lim_eq k hk]; exact h2 k (by omega)
  have := h3 1023 rfl
  omega
theorem wup_nat (n : Nat) (h : n < lim) (h2 : rt n < 9223372036854775807) : wupV (WI.of (n : Int)) = (((up n : Nat) : Int), 0) := by
  unfold wupV; rw [WI.of_sqrt n h]
  have hl : ((rt n : Nat) : Int).natAbs < lim := by simpa using Nat.lt_of_le_of_lt (rt_le n) h
  have hs : (((rt n : Nat) : Int) * ((rt n : Nat) : Int)).natAbs < lim := by
    rw [← Int.natCast_mul, Int.natAbs_natCast]; exact Nat.lt_of_le_of_lt (rt_spec n).1 h
  rw [WI.of_mul hl hl, WI.of_cmp _ _ hs (by simpa using h)]
  have e : ((rt n : Nat) : Int) * ((rt n : Nat) : Int) = ((rt n * rt n : Nat) : Int) := (Int.natCast_mul _ _).symm
  have hle := (rt_spec n).1
  simp only [true_and]
  unfold up
  by_cases hc : rt n * rt n < n
  · rw [if_pos hc, if_pos (by rw [if_pos (by omega)]; decide)]
    rw [WI.of_add hl (by have := lim_small (n := 1) (by decide); simpa using this)]
    have : ((rt n : Nat) : Int) + 1 = ((rt n + 1 : Nat) : Int) := by omega
    rw [this, narrow_of _ (by rw [Int.natAbs_natCast]; exact lim_small (by omega))]
    unfold fitI; rw [if_pos (by omega)]
  · rw [if_neg hc, if_neg (by rw [if_neg (by omega), if_neg (by omega)]; decide)]
    rw [narrow_of _ hl]
    unfold fitI; rw [if_pos (by omega)]
/-! ### Quotients -/
theorem sgn_of (x : Int) : x = sgn (decide (x < 0)) x.natAbs := by unfold sgn; by_cases h : x < 0 <;> simp [h] <;> omega
theorem fdiv_abs (x c : Int) (hc : c ≠ 0) : (x.fdiv c).natAbs ≤ x.natAbs + 1 := by
  rw [sgn_of x, sgn_of c, sgn_fdiv _ _ _ _ (by omega), sgn_abs, ← sgn_of x]
  have := Nat.div_le_self x.natAbs c.natAbs
  split <;> omega
theorem WI.of_div (a b : Int) (ha : a.natAbs < lim) (hb : b.natAbs < lim) (h0 : b ≠ 0) : (WI.of a).div (WI.of b) = (WI.of (a.fdiv b), 0) := by
  unfold WI.div; rw [WI.of_v ha, WI.of_v hb]
  simp only [h0, if_false]
theorem WI.of_div0 (a : Int) (ha : a.natAbs < lim) : (WI.of a).div (WI.of 0) = (WI.of 0, 1) := by
  unfold WI.div; rw [WI.of_v ha, WI.of_v (by simpa using lim_pos)]
  simp
theorem sm_lim1 {a : Int} (h : Sm 1000 a) : a.natAbs + 1 < lim := by
  have h1 := h.lim (k := 1000) (by decide)
  have h2 : Sm 1001 (a + 1) ∧ Sm 1001 (a - 1) := ⟨h.add (Sm.mono (j := 0) (by unfold Sm; decide) (by decide)), h.sub (Sm.mono (j := 0) (by unfold Sm; decide) (by decide))⟩
  have h3 := h2.1.lim (by decide)
  have h4 := h2.2.lim (by decide)
  omega
/-- A quotient of numbers that are small enough, down. -/
theorem floor_of (a b : Int) (ha : Sm 1000 a) (hb : Sm 1000 b) (h0 : b ≠ 0) : narrowV ((WI.of a).div (WI.of b)).1 ((WI.of a).div (WI.of b)).2 = fitI (a.fdiv b) := by
  rw [WI.of_div a b (ha.lim (by decide)) (hb.lim (by decide)) h0]
  have := fdiv_abs a b h0
  have := sm_lim1 ha
  exact narrow_of _ (by omega)
/-- The same, up. -/
theorem ceil_of (a b : Int) (ha : Sm 1000 a) (hb : Sm 1000 b) (h0 : b ≠ 0) : narrowV (aboveV (WI.of a) (WI.of b)).1 (aboveV (WI.of a) (WI.of b)).2 = fitI (-((-a).fdiv b)) := by
  unfold aboveV
  rw [WI.of_neg (ha.lim (by decide)), WI.of_div (-a) b (ha.neg.lim (by decide)) (hb.lim (by decide)) h0]
  have h1 := fdiv_abs (-a) b h0
  have h2 := sm_lim1 ha.neg
  rw [WI.of_neg (by omega)]
  exact narrow_of _ (by omega)
theorem mulDiv_eq (a b c : Int) (ha : Sm 63 a) (hb : Sm 63 b) (hc : Sm 63 c) : mulDivV a b c = if c = 0 then (0, 1) else fitI ((a * b).fdiv c) := by
  unfold mulDivV
  have hab := ha.mul hb
  rw [WI.of_mul (ha.lim (by decide)) (hb.lim (by decide))]
  by_cases h : c = 0
  · subst h
    rw [if_pos rfl, WI.of_div0 _ (hab.lim (by decide))]
    exact narrow_err _ _ (by decide)
  · rw [if_neg h]; exact floor_of _ _ (hab.mono (by decide)) (hc.mono (by decide)) h
theorem mulDivUp_eq (a b c : Int) (ha : Sm 63 a) (hb : Sm 63 b) (hc : Sm 63 c) : mulDivUpV a b c = if c = 0 then (0, 1) else fitI (-((-(a * b)).fdiv c)) := by
  unfold mulDivUpV
  have hab := ha.mul hb
  rw [WI.of_mul (ha.lim (by decide)) (hb.lim (by decide))]
  by_cases h : c = 0
  · subst h
    rw [if_pos rfl]
    unfold aboveV
    rw [WI.of_neg (hab.lim (by decide)), WI.of_div0 _ (hab.neg.lim (by decide))]
    exact narrow_err _ _ (by decide)
  · rw [if_neg h]; exact ceil_of _ _ (hab.mono (by decide)) (hc.mono (by decide)) h
theorem fit_of (a b : Int) (ha : a.natAbs < lim) (hb : b.natAbs < lim) : fitV (WI.of a) (WI.of b) = if b ≤ 0 then 1 else 0 := by
  have h1 : (WI.of a).ov = false := by unfold WI.ov; rw [WI.of_v ha]; rfl
  have h2 : (WI.of b).ov = false := by unfold WI.ov; rw [WI.of_v hb]; rfl
  unfold fitV
  rw [h1, h2, WI.of_sign hb]
  have e : b.sign ≤ 0 ↔ b ≤ 0 := by
    constructor
    · intro h
      by_cases h3 : 0 < b
      · rw [Int.sign_eq_one_of_pos h3] at h; omega
      · omega
    · intro h; rcases Int.lt_or_eq_of_le h with h3 | h3
      · rw [Int.sign_eq_neg_one_of_neg h3]; decide
      · rw [h3]; decide
  simp [e]
theorem floorV_of (a b : Int) (ha : Sm 1000 a) (hb : Sm 1000 b) (h0 : 0 < b) : floorV (WI.of a) (WI.of b) = fitI (a.fdiv b) := by
  have e : fitV (WI.of a) (WI.of b) = 0 := by rw [fit_of a b (ha.lim (by decide)) (hb.lim (by decide)), if_neg (by omega)]
  unfold floorV
  rw [e, if_neg (by decide)]
  exact floor_of a b ha hb (by omega)
theorem ceilV_of (a b : Int) (ha : Sm 1000 a) (hb : Sm 1000 b) (h0 : 0 < b) : ceilV (WI.of a) (WI.of b) = fitI (-((-a).fdiv b)) := by
  have e : fitV (WI.of a) (WI.of b) = 0 := by rw [fit_of a b (ha.lim (by decide)) (hb.lim (by decide)), if_neg (by omega)]
  unfold ceilV
  rw [e, if_neg (by decide)]
  exact ceil_of a b ha hb (by omega)
theorem nearV_of (a b : Int) (ha : Sm 990 a) (hb : Sm 990 b) (h0 : 0 < b) : nearV (WI.of a) (WI.of b) = fitI ((2 * a + b).fdiv (2 * b)) := by
  have e : fitV (WI.of a) (WI.of b) = 0 := by rw [fit_of a b (ha.lim (by decide)) (hb.lim (by decide)), if_neg (by omega)]
  unfold nearV
  rw [e, if_neg (by decide)]
  rw [WI.of_add (ha.lim (by decide)) (ha.lim (by decide)), WI.of_add ((ha.add ha).lim (by decide)) (hb.lim (by decide)), WI.of_add (hb.lim (by decide)) (hb.lim (by decide))]
  rw [show a + a + b = 2 * a + b by omega, show b + b = 2 * b by omega]
  refine floorV_of _ _ ?_ ?_ (by omega)
  · rw [show 2 * a + b = a + a + b by omega]; exact ((ha.add ha).add (hb.mono (by decide))).mono (by decide)
  · rw [show 2 * b = b + b by omega]; exact (hb.add hb).mono (by decide)
end Go.Proofs.Ytdipecepgfaokaa
namespace Go.Proofs.Ytdipecepgfaokaa
open Go.RowKit



theorem and_low (n : Int) (k m : Nat) (hk : k ≤ 63) (hm : m = 2 ^ k - 1) : bits .and .i64 n (m : Int) = n % (2 ^ k : Nat) := by
  have hp := Nat.two_pow_pos k
  have hle : 2 ^ k ≤ 9223372036854775808 := pow2_le k 63 hk
  have h1 : (BitVec.ofInt 64 n).toNat = (n % 18446744073709551616).toNat := by
    rw [BitVec.toNat_ofInt]; rfl
  have h2 : (BitVec.ofInt 64 (m : Int)).toNat = m := by
    rw [BitVec.ofInt_natCast, BitVec.toNat_ofNat]; exact Nat.mod_eq_of_lt (by omega)
  show IntKind.i64.wrap ((BitVec.ofInt 64 n &&& BitVec.ofInt 64 (m : Int)).toNat : Int) = _
  rw [BitVec.toNat_and, h1, h2, hm, Nat.and_two_pow_sub_one_eq_mod, IntKind.wrap_i64]
  have h3 : (((n % 18446744073709551616).toNat % 2 ^ k : Nat) : Int) = n % (2 ^ k : Nat) := by
    rw [Int.natCast_emod, Int.toNat_of_nonneg (by omega)]
    have hd : ((2 ^ k : Nat) : Int) ∣ 18446744073709551616 := by
      have : (18446744073709551616 : Nat) = 2 ^ k * 2 ^ (64 - k) := by rw [← Nat.pow_add, show k + (64 - k) = 64 by omega]
      refine ⟨((2 ^ (64 - k) : Nat) : Int), ?_⟩
      rw [← Int.natCast_mul, ← this]; rfl
    exact Int.emod_emod_of_dvd n hd
  rw [h3]
  have h4 : 0 ≤ n % ((2 ^ k : Nat) : Int) := Int.emod_nonneg _ (by omega)
  have h5 : n % ((2 ^ k : Nat) : Int) < ((2 ^ k : Nat) : Int) := Int.emod_lt_of_pos _ (by omega)
  omega
end Go.Proofs.Ytdipecepgfaokaa
