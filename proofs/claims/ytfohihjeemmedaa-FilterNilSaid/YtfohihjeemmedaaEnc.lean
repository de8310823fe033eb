/- How the program's wide numbers lie in memory: rows of words; the numbers of package wide as values. No program in sight. -/
import Derived.Test.YtfohihjeemmedaaNum
import Derived.Test.YtfohihjeemmedaaRow
namespace Go.Proofs.Ytfohihjeemmedaa
open Go.RowKit

/-- n words as cells. -/
def rowW (n N : Nat) : Array Value := Array.ofFn (n := n) fun i => .int .u64 (wd N i)
/-- The 16 words of a size. -/
abbrev rowN (N : Nat) : Array Value := rowW 16 N
theorem rowW_get (n N i : Nat) (h : i < n) : (rowW n N)[i]? = some (.int .u64 (wd N i)) := by simp [rowW, h]
@[simp] theorem rowW_size (n N : Nat) : (rowW n N).size = n := by simp [rowW]
theorem rowW_mod (n N : Nat) : rowW n (N % 2 ^ (64 * n)) = rowW n N := by
  unfold rowW; congr 1; funext i; rw [wd_mod N n i i.2]
theorem rowW_oneCell (n N : Nat) : (rowW n N).all (·.oneCell') = true := by
  rw [Array.all_eq_true]; intro i hi; simp [rowW, Value.oneCell']
theorem rowW_set (n N k v : Nat) (hv : v < 18446744073709551616) : (rowW n N).setIfInBounds k (.int .u64 (v : Int)) = rowW n (setw N k v) := by
  apply Array.ext
  · simp
  · intro i h1 h2
    simp at h1 h2
    by_cases hi : k = i
    · subst hi; simp [rowW, wd, wdn_setw_same N k v hv]
    · rw [Array.getElem_setIfInBounds_ne (by simpa using h1) hi]
      simp [rowW, wd, wdn_setw_other N k v i hv (Ne.symm hi)]
theorem setw_cut (N k : Nat) : setw (N % 2 ^ (64 * k)) k (wdn N k) = N % 2 ^ (64 * (k + 1)) := by
  have h : wdn (N % 2 ^ (64 * k)) k + wdn N k = wdn N k := by
    rw [wdn_eq_zero_of_lt _ k k (Nat.mod_lt _ (Nat.two_pow_pos _)) (Nat.le_refl _), Nat.zero_add]
  rw [setw_add _ _ _ _ h, cut_succ, Nat.mul_comm (wdn N k)]
/-- A row that is filled from the lowest word on. -/
theorem rowW_fill (n N k : Nat) : (rowW n (N % 2 ^ (64 * k))).setIfInBounds k (.int .u64 (wd N k)) = rowW n (N % 2 ^ (64 * (k + 1))) := by
  have := rowW_set n (N % 2 ^ (64 * k)) k (wdn N k) (wdn_lt N k)
  rw [setw_cut] at this
  exact this
theorem rowW_zero16 : rowW 16 0 = #[.int .u64 0, .int .u64 0, .int .u64 0, .int .u64 0, .int .u64 0, .int .u64 0, .int .u64 0, .int .u64 0, .int .u64 0, .int .u64 0, .int .u64 0, .int .u64 0, .int .u64 0, .int .u64 0, .int .u64 0, .int .u64 0] := by
  simp [rowW, Array.ofFn_succ, wd_zero]
theorem rowW_inj (n N M : Nat) (hN : N < 2 ^ (64 * n)) (hM : M < 2 ^ (64 * n)) (h : rowW n N = rowW n M) : N = M := by
  refine eq_of_wdn n N M hN hM fun i hi => ?_
  have h1 := rowW_get n N i hi
  rw [h, rowW_get n M i hi] at h1
  simp at h1
  unfold wd at h1; omega

/-- The words of a number lie at an address. -/
def RowAt (w : World) (b o N : Nat) : Prop := ∀ i, i < 16 → w.cell? ⟨b, o + i, none⟩ = some (.int .u64 (wd N i)) ∧ b < w.heap.size
theorem RowAt.below {w w' : World} {b o N : Nat} (h : RowAt w b o N) (hb : Below w.heap.size w w') : RowAt w' b o N := fun i hi =>
  ⟨by rw [hb.cell (p := ⟨b, o + i, none⟩) (h i hi).2]; exact (h i hi).1, Nat.lt_of_lt_of_le (h i hi).2 hb.size⟩
theorem RowAt.lt {w : World} {b o N : Nat} (h : RowAt w b o N) : b < w.heap.size := (h 0 (by decide)).2
theorem RowAt.of_blk {w : World} {b N : Nat} {t : TypeId} (h : Blk w b (rowW 16 N) t) : RowAt w b 0 N := fun i hi =>
  ⟨h.cell (by rw [Nat.zero_add]; exact rowW_get 16 N i hi), h.lt⟩

/-! ### A wide number -/
/-- Sizes are below this. -/
@[irreducible] def lim : Nat := 2 ^ 1023
theorem lim_eq (n : Nat) (h : n = 1023) : lim = 2 ^ n := by subst h; unfold lim; rfl
theorem lim_pos : 0 < lim := by unfold lim; exact Nat.two_pow_pos 1023
/-- The sizes of 16 words are below this. -/
@[irreducible] def W16 : Nat := 2 ^ (64 * 16)
theorem W16_eq (n : Nat) (h : n = 16) : W16 = 2 ^ (64 * n) := by subst h; unfold W16; rfl
theorem W16_lt {N n : Nat} (hN : N < W16) (h : n = 16) : N < 2 ^ (64 * n) := by rw [← W16_eq n h]; exact hN
/-- N has at most k words. -/
def LtW (N k : Nat) : Prop := N < 2 ^ (64 * k)
theorem LtW.of_eq {N k : Nat} (hk : k = 16) (hN : N < W16) : LtW N k := W16_lt hN hk
theorem LtW.of16 {N : Nat} (hN : N < W16) : LtW N 16 := .of_eq rfl hN
theorem LtW.div {N k : Nat} (h : LtW N k) : N / 2 ^ (64 * k) = 0 := Nat.div_eq_of_lt h
theorem ret_int {k : IntKind} {a b : Int} (h : a = b) : Ending.returned (.int k a) = .returned (.int k b) := by rw [h]
theorem lim_le_pow (n : Nat) (h : 1023 ≤ n) : lim ≤ 2 ^ n := by unfold lim; exact pow2_le 1023 n h
theorem lim_le : lim ≤ W16 := by
  have h : ∀ n, n = 16 → lim ≤ 2 ^ (64 * n) := fun n hn => lim_le_pow _ (by omega)
  have := h 16 rfl
  rwa [← W16_eq 16 rfl] at this
theorem W16_pos : 0 < W16 := Nat.lt_of_lt_of_le lim_pos lim_le
theorem lim_bl (N : Nat) : bl N ≤ 1023 ↔ N < lim := by unfold lim; exact bl_le_iff N 1023
/-- A number of fewer than 1024 bits, or over. -/
structure WI where
  v : Option Int
  ok : ∀ z, v = some z → z.natAbs < lim
theorem WI.ext' {x y : WI} (h : x.v = y.v) : x = y := by cases x; cases y; cases h; rfl
/-- What is over. -/
def WI.over : WI := ⟨none, fun _ h => by cases h⟩
/-- A whole number, or over. -/
def WI.of (z : Int) : WI := ⟨if z.natAbs < lim then some z else none, fun y h => by
  split at h
  · cases h; assumption
  · cases h⟩
/-- The cells of an Int of package wide. -/
def cellsI (neg over : Bool) (N : Nat) : Array Value := #[.bool neg, .bool over] ++ rowW 16 N
def WI.cells (x : WI) : Array Value := match x.v with
  | none => cellsI false true 0
  | some z => cellsI (decide (z < 0)) false z.natAbs
@[simp] theorem cellsI_size (n o : Bool) (N : Nat) : (cellsI n o N).size = 18 := by simp [cellsI]
theorem cellsI_0 (n o : Bool) (N : Nat) : (cellsI n o N)[0]? = some (.bool n) := by simp [cellsI]
theorem cellsI_1 (n o : Bool) (N : Nat) : (cellsI n o N)[1]? = some (.bool o) := by simp [cellsI]
theorem cellsI_word (n o : Bool) (N i : Nat) (h : i < 16) : (cellsI n o N)[2 + i]? = some (.int .u64 (wd N i)) := by
  unfold cellsI
  rw [Array.getElem?_append_right (by simp)]
  simp only [List.size_toArray, List.length_cons, List.length_nil]
  rw [show 2 + i - (0 + 1 + 1) = i by omega, rowW_get 16 N i h]
@[simp] theorem WI.cells_size (x : WI) : x.cells.size = 18 := by unfold WI.cells; split <;> simp
/-- Its sign, whether it is over, its size. -/
def WI.ng (x : WI) : Bool := match x.v with | none => false | some z => decide (z < 0)
def WI.ov (x : WI) : Bool := x.v.isNone
def WI.sz (x : WI) : Nat := match x.v with | none => 0 | some z => z.natAbs
theorem WI.cells_eq (x : WI) : x.cells = cellsI x.ng x.ov x.sz := by
  unfold WI.cells WI.ng WI.ov WI.sz; cases x.v <;> rfl
theorem WI.sz_lt (x : WI) : x.sz < lim := by
  unfold WI.sz; cases h : x.v with
  | none => exact lim_pos
  | some z => exact x.ok z h
theorem WI.sz_lt' (x : WI) : x.sz < W16 := Nat.lt_of_lt_of_le x.sz_lt lim_le
theorem cellsI_oneCell (n o : Bool) (N : Nat) : (cellsI n o N).all (·.oneCell') = true := by
  rw [Array.all_eq_true]; intro i hi
  simp only [cellsI, rowW, Array.getElem_append, Array.getElem_ofFn]
  split
  · rename_i h; simp at h; rcases i with _ | _ | i <;> first | rfl | omega
  · rfl
@[simp] theorem cellsI_all (n o : Bool) (N : Nat) : (cellsI n o N).extract 0 18 = cellsI n o N := by
  have := Array.extract_size (xs := cellsI n o N); rwa [cellsI_size] at this
@[simp] theorem cellsI_size_part (n o : Bool) (N : Nat) : (cellsI n o N).extract 2 18 = rowW 16 N := by
  unfold cellsI
  rw [Array.extract_append]; simp
@[simp] theorem rowW_all (N : Nat) : (rowW 16 N).extract 0 16 = rowW 16 N := by
  have := Array.extract_size (xs := rowW 16 N); rwa [rowW_size] at this
theorem RowAt.of_box {w : World} {b N : Nat} {n o : Bool} {t : TypeId} (h : Blk w b (cellsI n o N) t) : RowAt w b 2 N := fun i hi =>
  ⟨h.cell (cellsI_word n o N i hi), h.lt⟩

theorem WI.cells_0 (x : WI) : x.cells[0]? = some (.bool x.ng) := by rw [x.cells_eq]; exact cellsI_0 _ _ _
theorem WI.cells_1 (x : WI) : x.cells[1]? = some (.bool x.ov) := by rw [x.cells_eq]; exact cellsI_1 _ _ _
@[simp] theorem WI.cells_all (x : WI) : x.cells.extract 0 18 = x.cells := by rw [x.cells_eq]; simp
@[simp] theorem WI.cells_size_part (x : WI) : x.cells.extract 2 18 = rowW 16 x.sz := by rw [x.cells_eq]; simp
@[simp] theorem rowW_ones (n N : Nat) : ones (rowW n N) = true := rowW_oneCell n N
@[simp] theorem cellsI_ones (n o : Bool) (N : Nat) : ones (cellsI n o N) = true := cellsI_oneCell n o N
@[simp] theorem WI.cells_ones (x : WI) : ones x.cells = true := by rw [x.cells_eq]; simp
theorem RowAt.of_wi {w : World} {b : Nat} {x : WI} {t : TypeId} (h : Blk w b x.cells t) : RowAt w b 2 x.sz := .of_box (h.of_eq x.cells_eq)
theorem getElem_of_some {c : Array Value} {i : Nat} {v : Value} (h : c[i]? = some v) (hi : i < c.size) : c[i] = v := by
  rw [Array.getElem?_eq_getElem hi] at h; exact Option.some.inj h
@[simp] theorem cellsI_g0 (n o : Bool) (N : Nat) (h : 0 < (cellsI n o N).size) : (cellsI n o N)[0] = .bool n := getElem_of_some (cellsI_0 n o N) h
@[simp] theorem cellsI_g1 (n o : Bool) (N : Nat) (h : 1 < (cellsI n o N).size) : (cellsI n o N)[1] = .bool o := getElem_of_some (cellsI_1 n o N) h
@[simp] theorem WI.cells_g0 (x : WI) (h : 0 < x.cells.size) : x.cells[0] = .bool x.ng := getElem_of_some x.cells_0 h
@[simp] theorem WI.cells_g1 (x : WI) (h : 1 < x.cells.size) : x.cells[1] = .bool x.ov := getElem_of_some x.cells_1 h
@[simp] theorem cellsI_set0 (n o x : Bool) (N : Nat) : (cellsI n o N).setIfInBounds 0 (.bool x) = cellsI x o N := by
  unfold cellsI; rw [Array.setIfInBounds_append_left (by simp)]; rfl
@[simp] theorem cellsI_set1 (n o x : Bool) (N : Nat) : (cellsI n o N).setIfInBounds 1 (.bool x) = cellsI n x N := by
  unfold cellsI; rw [Array.setIfInBounds_append_left (by simp)]; rfl
@[simp] theorem cellsI_lset0 (n o x : Bool) (N : Nat) : (cellsI n o N).toList.set 0 (.bool x) = (cellsI x o N).toList := by
  rw [← cellsI_set0 n o x N, Array.toList_setIfInBounds]
@[simp] theorem cellsI_lset1 (n o x : Bool) (N : Nat) : (cellsI n o N).toList.set 1 (.bool x) = (cellsI n x N).toList := by
  rw [← cellsI_set1 n o x N, Array.toList_setIfInBounds]
@[simp] theorem cellsI_ne (n o : Bool) (N : Nat) : (cellsI n o N = #[]) = False := by
  apply eq_false; intro h; have := cellsI_size n o N; rw [h] at this; cases this
@[simp] theorem splice_cellsI (n o : Bool) (N M : Nat) : splice (cellsI n o N) 2 (rowW 16 M) = cellsI n o M := by
  unfold splice cellsI
  apply Array.ext'
  simp
@[simp] theorem fold_cellsI (n o : Bool) (N M : Nat) : Array.foldl (fun (cs : Array Value) (x : Value × Nat) => cs.setIfInBounds (2 + x.snd) x.fst) (cellsI n o N) (rowW 16 M).zipIdx 0 16 = cellsI n o M := by
  have := foldl_splice (cellsI n o N) (rowW 16 M) 2 (by simp)
  rw [splice_cellsI] at this
  have h16 : (rowW 16 M).zipIdx.size = 16 := by rw [Array.size_zipIdx, rowW_size]
  rw [h16] at this
  exact this
/-! ### What is reckoned -/
def WI.neg (x : WI) : WI := match x.v with | some a => WI.of (-a) | none => WI.over
def WI.add (x y : WI) : WI := match x.v, y.v with | some a, some b => WI.of (a + b) | _, _ => WI.over
def WI.sub (x y : WI) : WI := x.add y.neg
def WI.mul (x y : WI) : WI := match x.v, y.v with | some a, some b => WI.of (a * b) | _, _ => WI.over
def WI.sign (x : WI) : Int := match x.v with | some a => a.sign | none => 0
theorem WI.of_over {z : Int} (h : ¬ z.natAbs < lim) : WI.of z = WI.over := by apply WI.ext'; unfold WI.of WI.over; exact if_neg h
theorem WI.of_v {z : Int} (h : z.natAbs < lim) : (WI.of z).v = some z := by unfold WI.of; exact if_pos h
/-- A number of a sign and a size. -/
def sgn (neg : Bool) (N : Nat) : Int := if neg then -(N : Int) else N
theorem sgn_abs (n : Bool) (N : Nat) : (sgn n N).natAbs = N := by unfold sgn; split <;> omega
theorem WI.of_sgn_over {n : Bool} {N : Nat} (h : 1023 < bl N) : (WI.of (sgn n N)).cells = cellsI false true 0 := by
  rw [WI.of_over]
  · rfl
  · rw [sgn_abs, ← lim_bl]; omega
theorem WI.of_sgn {n : Bool} {N : Nat} (h : bl N ≤ 1023) : (WI.of (sgn n N)).cells = cellsI (n && (decide (N ≠ 0))) false N := by
  have hl : (sgn n N).natAbs < lim := by rw [sgn_abs]; exact (lim_bl N).1 h
  rw [WI.cells_eq]
  unfold WI.ng WI.ov WI.sz
  rw [WI.of_v hl]
  simp only [sgn_abs, Option.isNone_some]
  congr 1
  cases n
  · simp [sgn]
  · rw [Bool.true_and, decide_eq_decide]; unfold sgn; simp only [if_true]; omega

end Go.Proofs.Ytfohihjeemmedaa
