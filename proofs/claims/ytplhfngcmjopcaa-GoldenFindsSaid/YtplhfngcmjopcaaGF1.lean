/- The walk of GoldenFinds' closures. -/
import Derived.Test.YtplhfngcmjopcaaG3
import Derived.Test.YtplhfngcmjopcaaGF0
import Derived.Maps.RangeWalk
import Derived.Maps.OwnOps
import Derived.Maps.Views
namespace Go.Proofs.Ytplhfngcmjopcaa
open Go.RowKit
open Go.Maps (Keyed)

/-! ### How the values fall and rise -/
/-- The steps' cells. -/
def StepsAt (w : World) (A : Option Addr) (len : Nat) (T : Nat → Int) : Prop :=
  ∀ i : Nat, i < len → ∃ b o, A = some ⟨b, o, none⟩ ∧ b < w.heap.size ∧ w.cell? ⟨b, o + i, none⟩ = some (.int .i64 (T i))
def stepS (T : Nat → Int) (len i : Nat) : Int := if i < len then 1 + (IntKind.u64.wrap (T i)).tmod 1000 else 1
def sumS (T : Nat → Int) (len : Nat) : Nat → Int
  | 0 => 0
  | d + 1 => sumS T len d + stepS T len d
theorem stepS_pos (T : Nat → Int) (len i : Nat) : 1 ≤ stepS T len i ∧ stepS T len i ≤ 1000 := by
  unfold stepS
  split
  · have h0 : 0 ≤ IntKind.u64.wrap (T i) := by rw [IntKind.wrap_u64]; omega
    have h1 := Int.tmod_lt_of_pos (IntKind.u64.wrap (T i)) (show (0 : Int) < 1000 by decide)
    have h2 := Int.tmod_nonneg 1000 h0
    omega
  · omega
theorem sumS_bd (T : Nat → Int) (len d : Nat) : (d : Int) ≤ sumS T len d ∧ sumS T len d ≤ 1000 * d := by
  induction d with
  | zero => exact ⟨Int.le_refl _, Int.le_refl _⟩
  | succ d ih => have := stepS_pos T len d; show ((d + 1 : Nat) : Int) ≤ sumS T len d + stepS T len d ∧ sumS T len d + stepS T len d ≤ 1000 * ((d + 1 : Nat) : Int); omega
theorem sumS_lt (T : Nat → Int) (len : Nat) {d e : Nat} (h : d < e) : sumS T len d < sumS T len e := by
  induction e with
  | zero => omega
  | succ e ih =>
    have := stepS_pos T len e
    show sumS T len d < sumS T len e + stepS T len e
    rcases Nat.lt_or_ge d e with h' | h'
    · have := ih h'; omega
    · obtain rfl : d = e := by omega
      omega
def valV (T : Nat → Int) (len : Nat) (at' x : Int) : Int × Bool := (sumS T len (x - at').natAbs, true)
theorem finds (T : Nat → Int) (len : Nat) (at' : Int) (h1 : 1 ≤ at') (h2 : at' ≤ 33) : (gfin (valV T len at')).w = at' ∧ (gfin (valV T len at')).n = 0 ∧ (gfin (valV T len at')).ok = true ∧ (gfin (valV T len at')).asked.Nodup := by
  refine gfinds _ at' h1 h2 (fun _ => rfl) ?_ ?_ ?_ ?_
  · show sumS T len (at' - at').natAbs = 0
    rw [Int.sub_self]; rfl
  · intro x hx
    show 0 < sumS T len (x - at').natAbs
    have := (sumS_bd T len (x - at').natAbs).1
    omega
  · intro x y hxy hy
    exact sumS_lt T len (by omega)
  · intro x y hx hxy
    exact sumS_lt T len (by omega)

/-! ### What the map holds -/
def cntK (D : DataW Unit) (x : Int) : Int := match D.atKey (.int .i64 x) (.lit (.int .i64 0)) with | .lit (.int _ c) => c | _ => 0
def DLr : List Int → DataW Unit
  | [] => .map []
  | x :: r => (DLr r).put (.int .i64 x) (.lit (.int .i64 (wrap64 (cntK (DLr r) x + 1))))
def DL (l : List Int) : DataW Unit := DLr l.reverse
theorem DL_snoc (l : List Int) (x : Int) : DL (l ++ [x]) = (DL l).put (.int .i64 x) (.lit (.int .i64 (wrap64 (cntK (DL l) x + 1)))) := by
  unfold DL; rw [List.reverse_append]; rfl
theorem DLr_map (r : List Int) : Maps.IsMap (DLr r) := by
  induction r with
  | nil => exact ⟨_, rfl⟩
  | cons x r ih => obtain ⟨es, h⟩ := ih; exact ⟨_, by unfold DLr; rw [h]; rfl⟩
theorem DLr_at (r : List Int) (hn : r.Nodup) (x : Int) (z : DataW Unit) : (DLr r).atKey (.int .i64 x) z = if x ∈ r then .lit (.int .i64 1) else z := by
  induction r generalizing x z with
  | nil => rfl
  | cons y r ih =>
    obtain ⟨hy, hn'⟩ := List.nodup_cons.1 hn
    unfold DLr
    have hc : cntK (DLr r) y = 0 := by unfold cntK; rw [ih hn' y, if_neg hy]
    rw [hc]
    by_cases hxy : x = y
    · subst hxy
      rw [Maps.atKey_put_same (k := Lit.int .i64 x) (DLr_map r) trivial, if_pos List.mem_cons_self, show wrap64 (0 + 1) = 1 by unfold wrap64; decide]
    · rw [Maps.atKey_put_other (by simp [hxy]), ih hn' x z]
      simp [hxy]
theorem DL_one (l : List Int) (hn : l.Nodup) (x c : Int) (h : ∀ z, (DL l).atKey (.int .i64 x) z = .lit (.int .i64 c)) : c = 1 := by
  have h1 := h (.lit (.int .i64 1))
  unfold DL at h1
  rw [DLr_at _ ((List.reverse_perm l).nodup_iff.2 hn)] at h1
  split at h1 <;> simp at h1 <;> omega
theorem lawInt : Keyed Try.prog 3 := Maps.int_keyed Try.underlying3
end Go.Proofs.Ytplhfngcmjopcaa
