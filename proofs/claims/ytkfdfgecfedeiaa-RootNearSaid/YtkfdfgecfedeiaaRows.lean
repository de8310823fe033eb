/-
  No cell of these rows narrows 'for every input' (looked for: loops, veiled, ifaces, maps, wideKeys, modest, calm, conditions, laid).
  DERIVED. THE GIVEN ROWS OF THIS SEAT. 5 by the template 'for every input the law returns true; each argument reads behind the call as it read before'; 0 by the template 'total and deterministic' (their statements: YtkfdfgecfedeiaaTotals.lean).
  GIVEN WITH THE SEED: the statements are not yours to turn. If you find one false, say at which input.
  Laid BY PROGRAM, IN A SANDBOX (cutbox-rows.mjs): the forced cells as the released guide's own fill.sh prints them over the translation f99aa3590eab2c3a… (all of the seat's roots in one cut). By AI agents, Wed Nov 11 2026. No macro, syntax, notation, axiom, sorry.
-/
import Derived.Test.YtkfdfgecfedeiaaChecked
import GoSem.Claim
import GoSem.ClaimJoined
import GoSem.ClaimMapViews
import Derived.JoinedTies
import Derived.KernelRfl
namespace Go.Proofs.Ytkfdfgecfedeiaa
/- THE CELL 'sum', in the pinned program and in every row, IS THE sha256 OF THE DUMP (.gsa) THAT YtkfdfgecfedeiaaProg.lean LOADS. Nothing in Lean hashes anything: it is a label: what it is worth is what the hold of that sum in a sandbox is worth. -/
noncomputable def Try.pinned : Pinned := { name := "ytkfdfgecfedeiaa", sum := "f99aa3590eab2c3aa19ea602aa8b0163e3ed63c9f96ce675a7f1b70bdfcfe829", checked := Try.checked }
namespace Rows
def none {H : Type} : Left H := { results := [], args := [] }

/-- 'alidadelaw2.RootSquares': WHATEVER THE INPUT: true; the input reads as it did. -/
def rootSquaresSpec : ChangeSpec := { name := "rootSquares", fn := fun _ => fun
  | [d] => { results := [.lit (.bool true)], args := [d] }
  | _ => none }
def rootSquaresRow : OpenClaim := { program := "ytkfdfgecfedeiaa", sum := "f99aa3590eab2c3aa19ea602aa8b0163e3ed63c9f96ce675a7f1b70bdfcfe829", func := "alidade/alidadelaw2.RootSquares", spec := "rootSquares", inPlace := ["math/bits.Add64", "math/bits.Sub64"], named := ["math/bits.divideError", "math/bits.overflowError"], apart := false }
def RootSquaresSaid : Prop := rootSquaresRow.holds Try.pinned (OpenSpec.ofChange rootSquaresSpec)

/-- ITS FALSE NEIGHBOUR: 'it returns false'. Refute it at one input. -/
def rootSquaresWrong : ChangeSpec := { name := "rootSquares", fn := fun _ => fun
  | [d] => { results := [.lit (.bool false)], args := [d] }
  | _ => none }
def RootSquaresWrongFalsely : Prop := rootSquaresRow.holds Try.pinned (OpenSpec.ofChange rootSquaresWrong)

/-- 'alidadelaw2.RootPlain': WHATEVER THE INPUT: true; the input reads as it did. -/
def rootPlainSpec : ChangeSpec := { name := "rootPlain", fn := fun _ => fun
  | [d1, d2, d3, d4] => { results := [.lit (.bool true)], args := [d1, d2, d3, d4] }
  | _ => none }
def rootPlainRow : OpenClaim := { program := "ytkfdfgecfedeiaa", sum := "f99aa3590eab2c3aa19ea602aa8b0163e3ed63c9f96ce675a7f1b70bdfcfe829", func := "alidade/alidadelaw2.RootPlain", spec := "rootPlain", inPlace := ["math/bits.Add64", "math/bits.Sub64"], named := ["math/bits.divideError", "math/bits.overflowError"], apart := false }
def RootPlainSaid : Prop := rootPlainRow.holds Try.pinned (OpenSpec.ofChange rootPlainSpec)

/-- ITS FALSE NEIGHBOUR: 'it returns false'. Refute it at one input. -/
def rootPlainWrong : ChangeSpec := { name := "rootPlain", fn := fun _ => fun
  | [d1, d2, d3, d4] => { results := [.lit (.bool false)], args := [d1, d2, d3, d4] }
  | _ => none }
def RootPlainWrongFalsely : Prop := rootPlainRow.holds Try.pinned (OpenSpec.ofChange rootPlainWrong)

/-- 'alidadelaw2.RootTight': WHATEVER THE INPUT: true; the input reads as it did. -/
def rootTightSpec : ChangeSpec := { name := "rootTight", fn := fun _ => fun
  | [d1, d2, d3, d4] => { results := [.lit (.bool true)], args := [d1, d2, d3, d4] }
  | _ => none }
def rootTightRow : OpenClaim := { program := "ytkfdfgecfedeiaa", sum := "f99aa3590eab2c3aa19ea602aa8b0163e3ed63c9f96ce675a7f1b70bdfcfe829", func := "alidade/alidadelaw2.RootTight", spec := "rootTight", inPlace := ["math/bits.Add64", "math/bits.Sub64"], named := ["math/bits.divideError", "math/bits.overflowError"], apart := false }
def RootTightSaid : Prop := rootTightRow.holds Try.pinned (OpenSpec.ofChange rootTightSpec)

/-- ITS FALSE NEIGHBOUR: 'it returns false'. Refute it at one input. -/
def rootTightWrong : ChangeSpec := { name := "rootTight", fn := fun _ => fun
  | [d1, d2, d3, d4] => { results := [.lit (.bool false)], args := [d1, d2, d3, d4] }
  | _ => none }
def RootTightWrongFalsely : Prop := rootTightRow.holds Try.pinned (OpenSpec.ofChange rootTightWrong)

/-- 'alidadelaw2.RootRises': WHATEVER THE INPUT: true; the input reads as it did. -/
def rootRisesSpec : ChangeSpec := { name := "rootRises", fn := fun _ => fun
  | [d1, d2, d3, d4, d5] => { results := [.lit (.bool true)], args := [d1, d2, d3, d4, d5] }
  | _ => none }
def rootRisesRow : OpenClaim := { program := "ytkfdfgecfedeiaa", sum := "f99aa3590eab2c3aa19ea602aa8b0163e3ed63c9f96ce675a7f1b70bdfcfe829", func := "alidade/alidadelaw2.RootRises", spec := "rootRises", inPlace := ["math/bits.Add64", "math/bits.Sub64"], named := ["math/bits.divideError", "math/bits.overflowError"], apart := false }
def RootRisesSaid : Prop := rootRisesRow.holds Try.pinned (OpenSpec.ofChange rootRisesSpec)

/-- ITS FALSE NEIGHBOUR: 'it returns false'. Refute it at one input. -/
def rootRisesWrong : ChangeSpec := { name := "rootRises", fn := fun _ => fun
  | [d1, d2, d3, d4, d5] => { results := [.lit (.bool false)], args := [d1, d2, d3, d4, d5] }
  | _ => none }
def RootRisesWrongFalsely : Prop := rootRisesRow.holds Try.pinned (OpenSpec.ofChange rootRisesWrong)

/-- 'alidadelaw2.RootNear': WHATEVER THE INPUT: true; the input reads as it did. -/
def rootNearSpec : ChangeSpec := { name := "rootNear", fn := fun _ => fun
  | [d1, d2] => { results := [.lit (.bool true)], args := [d1, d2] }
  | _ => none }
def rootNearRow : OpenClaim := { program := "ytkfdfgecfedeiaa", sum := "f99aa3590eab2c3aa19ea602aa8b0163e3ed63c9f96ce675a7f1b70bdfcfe829", func := "alidade/alidadelaw2.RootNear", spec := "rootNear", inPlace := ["math/bits.Add64", "math/bits.Sub64"], named := ["math/bits.divideError", "math/bits.overflowError"], apart := false }
def RootNearSaid : Prop := rootNearRow.holds Try.pinned (OpenSpec.ofChange rootNearSpec)

/-- ITS FALSE NEIGHBOUR: 'it returns false'. Refute it at one input. -/
def rootNearWrong : ChangeSpec := { name := "rootNear", fn := fun _ => fun
  | [d1, d2] => { results := [.lit (.bool false)], args := [d1, d2] }
  | _ => none }
def RootNearWrongFalsely : Prop := rootNearRow.holds Try.pinned (OpenSpec.ofChange rootNearWrong)

/- THE SECOND FORM. 'bulk': how many values and letters a reading holds, each counted each time it is reached (what is shared counts as often as it is met; a slice's spare places count too). A statement '..UptoSaid' is the law's where the arguments, and the package variables that the reading takes, are together of bulk at most 1048576: NARROWER than '..Said'. Prove '..Said' where nothing that the law and all that it calls make is longer than what came in: it says more and counts as full. Else prove '..UptoSaid'. A law counts once. -/
mutual
def uptoBulk {H : Type} : DataW H → Nat
  | .lit (.string bytes) => bytes.length + 1
  | .lit _ => 1
  | .nil => 1
  | .ptr d => uptoBulk d + 1
  | .slice elems spare => uptoBulkAll elems + uptoBulkAll spare + 1
  | .agg parts => uptoBulkAll parts + 1
  | .iface _ d => uptoBulk d + 1
  | .map entries => uptoBulkEntries entries + 1
  | .held _ => 1
def uptoBulkAll {H : Type} : List (DataW H) → Nat
  | [] => 0
  | d :: r => uptoBulk d + uptoBulkAll r
def uptoBulkEntries {H : Type} : List (Lit × DataW H) → Nat
  | [] => 0
  | x :: r => uptoBulkEntry x + uptoBulkEntries r
def uptoBulkEntry {H : Type} : Lit × DataW H → Nat
  | (.string bytes, d) => bytes.length + uptoBulk d + 1
  | (_, d) => uptoBulk d + 1
 end
def uptoSmall : (H : Type) → List (DataW H) → Bool := fun _ ds => decide (uptoBulkAll ds ≤ 1048576)
def OpenSpec.upto (s : _root_.Go.ChangeSpec) : _root_.Go.OpenSpec := { _root_.Go.OpenSpec.ofChange s with cond := some uptoSmall }

/-- 'alidadelaw2.RootSquares', WHERE WHAT IT READS IS OF BULK AT MOST 1048576: true; the input reads as it did. -/
def rootSquaresUptoRow : OpenClaim := { program := "ytkfdfgecfedeiaa", sum := "f99aa3590eab2c3aa19ea602aa8b0163e3ed63c9f96ce675a7f1b70bdfcfe829", func := "alidade/alidadelaw2.RootSquares", spec := "rootSquares", inPlace := ["math/bits.Add64", "math/bits.Sub64"], named := ["math/bits.divideError", "math/bits.overflowError"], apart := false, narrowed := true }
def RootSquaresUptoSaid : Prop := rootSquaresUptoRow.holds Try.pinned (OpenSpec.upto rootSquaresSpec)

/-- 'alidadelaw2.RootPlain', WHERE WHAT IT READS IS OF BULK AT MOST 1048576: true; the input reads as it did. -/
def rootPlainUptoRow : OpenClaim := { program := "ytkfdfgecfedeiaa", sum := "f99aa3590eab2c3aa19ea602aa8b0163e3ed63c9f96ce675a7f1b70bdfcfe829", func := "alidade/alidadelaw2.RootPlain", spec := "rootPlain", inPlace := ["math/bits.Add64", "math/bits.Sub64"], named := ["math/bits.divideError", "math/bits.overflowError"], apart := false, narrowed := true }
def RootPlainUptoSaid : Prop := rootPlainUptoRow.holds Try.pinned (OpenSpec.upto rootPlainSpec)

/-- 'alidadelaw2.RootTight', WHERE WHAT IT READS IS OF BULK AT MOST 1048576: true; the input reads as it did. -/
def rootTightUptoRow : OpenClaim := { program := "ytkfdfgecfedeiaa", sum := "f99aa3590eab2c3aa19ea602aa8b0163e3ed63c9f96ce675a7f1b70bdfcfe829", func := "alidade/alidadelaw2.RootTight", spec := "rootTight", inPlace := ["math/bits.Add64", "math/bits.Sub64"], named := ["math/bits.divideError", "math/bits.overflowError"], apart := false, narrowed := true }
def RootTightUptoSaid : Prop := rootTightUptoRow.holds Try.pinned (OpenSpec.upto rootTightSpec)

/-- 'alidadelaw2.RootRises', WHERE WHAT IT READS IS OF BULK AT MOST 1048576: true; the input reads as it did. -/
def rootRisesUptoRow : OpenClaim := { program := "ytkfdfgecfedeiaa", sum := "f99aa3590eab2c3aa19ea602aa8b0163e3ed63c9f96ce675a7f1b70bdfcfe829", func := "alidade/alidadelaw2.RootRises", spec := "rootRises", inPlace := ["math/bits.Add64", "math/bits.Sub64"], named := ["math/bits.divideError", "math/bits.overflowError"], apart := false, narrowed := true }
def RootRisesUptoSaid : Prop := rootRisesUptoRow.holds Try.pinned (OpenSpec.upto rootRisesSpec)

/-- 'alidadelaw2.RootNear', WHERE WHAT IT READS IS OF BULK AT MOST 1048576: true; the input reads as it did. -/
def rootNearUptoRow : OpenClaim := { program := "ytkfdfgecfedeiaa", sum := "f99aa3590eab2c3aa19ea602aa8b0163e3ed63c9f96ce675a7f1b70bdfcfe829", func := "alidade/alidadelaw2.RootNear", spec := "rootNear", inPlace := ["math/bits.Add64", "math/bits.Sub64"], named := ["math/bits.divideError", "math/bits.overflowError"], apart := false, narrowed := true }
def RootNearUptoSaid : Prop := rootNearUptoRow.holds Try.pinned (OpenSpec.upto rootNearSpec)

end Rows
end Go.Proofs.Ytkfdfgecfedeiaa
