/- The walks of package mat: Add, Adj. -/
import Derived.Test.YtgddblbpmfaahaaM1
namespace Go.Proofs.Ytgddblbpmfaahaa
open Go.RowKit

/-- mat.Adj. -/
def adjV (a b d : Int) : Value := if mayB a b d then symV d (-b) a else symV 0 0 0
/-- The end of a walk whose results are a row of cells and a slot. -/
theorem bodyPost_row_tmp {P : Program} {fn : Func} {R : Ending → World → Prop} {a : Act} {w : World} {p u : Tmp} {ty : TypeId} {g : Nat} (n : Nat) (cs : Array Value) (v : Value) {d : TypeDesc}
    (h : fn.results = #[.cell p ty, .tmp u]) (hde : a.defers = []) (hp : a.tmps.getD p undef = .pointer (some ⟨g, 0, none⟩)) (hv : a.tmps.getD u undef = v)
    (hu : P.underlying ty = some d) (hd : d.isRow = true) (hi : (P.info? ty).map (·.size) = some n) (hg : w.row? g 0 n = some cs) (hR : R (.returned (.tuple #[.agg cs, v])) w) :
    bodyPost P fn R .ret a w := by
  refine bodyPost_ret (v := .tuple #[.agg cs, v]) ?_ hde hR
  rw [results_cell_tmp h, hp, hv]
  simp [asAddr, Result.andThen, run_loadVar_row? w g 0 n ty cs d hu hd hi hg]

/-- mat.Add. -/
def addV (a b d a' b' d' : Int) : Value × Int :=
  if mayB a b d && mayB a' b' d' then (if mayB (a + a') (b + b') (d + d') then (symV (a + a') (b + b') (d + d'), 0) else (symV 0 0 0, 2)) else (symV 0 0 0, 1)
end Go.Proofs.Ytgddblbpmfaahaa
