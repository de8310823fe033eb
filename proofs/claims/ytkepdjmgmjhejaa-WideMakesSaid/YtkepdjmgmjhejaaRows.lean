/-
  No cell of these rows narrows 'for every input' (looked for: loops, veiled, ifaces, maps, wideKeys, modest, calm, conditions, laid).
  DERIVED. THE GIVEN ROWS OF THIS SEAT. 9 by the template 'for every input the law returns true; each argument reads behind the call as it read before'; 0 by the template 'total and deterministic' (their statements: YtkepdjmgmjhejaaTotals.lean).
  GIVEN WITH THE SEED: the statements are not yours to turn. If you find one false, say at which input.
  Laid BY PROGRAM, IN A SANDBOX (cutbox-rows.mjs): the forced cells as the released guide's own fill.sh prints them over the translation a717b3b471b774a7… (all of the seat's roots in one cut). By AI agents, Wed Nov 11 2026. No macro, syntax, notation, axiom, sorry.
-/
import Derived.Test.YtkepdjmgmjhejaaChecked
import GoSem.Claim
import GoSem.ClaimJoined
import GoSem.ClaimMapViews
import Derived.JoinedTies
import Derived.KernelRfl
namespace Go.Proofs.Ytkepdjmgmjhejaa
/- THE CELL 'sum', in the pinned program and in every row, IS THE sha256 OF THE DUMP (.gsa) THAT YtkepdjmgmjhejaaProg.lean LOADS. Nothing in Lean hashes anything: it is a label: what it is worth is what the hold of that sum in a sandbox is worth. -/
noncomputable def Try.pinned : Pinned := { name := "ytkepdjmgmjhejaa", sum := "a717b3b471b774a727259a4fac672491ecf151dfdea090b254aea93d9c3e0c96", checked := Try.checked }
namespace Rows
def none {H : Type} : Left H := { results := [], args := [] }

/-- 'alidadelaw1.WideRing': WHATEVER THE INPUT: true; the input reads as it did. -/
def wideRingSpec : ChangeSpec := { name := "wideRing", fn := fun _ => fun
  | [d1, d2, d3] => { results := [.lit (.bool true)], args := [d1, d2, d3] }
  | _ => none }
def wideRingRow : OpenClaim := { program := "ytkepdjmgmjhejaa", sum := "a717b3b471b774a727259a4fac672491ecf151dfdea090b254aea93d9c3e0c96", func := "alidade/alidadelaw1.WideRing", spec := "wideRing", inPlace := ["math/bits.Add64", "math/bits.Sub64"], unfollowed := true, recurses := true, named := ["math/bits.divideError", "math/bits.overflowError"], apart := false }
def WideRingSaid : Prop := wideRingRow.holds Try.pinned (OpenSpec.ofChange wideRingSpec)

/-- ITS FALSE NEIGHBOUR: 'it returns false'. Refute it at one input. -/
def wideRingWrong : ChangeSpec := { name := "wideRing", fn := fun _ => fun
  | [d1, d2, d3] => { results := [.lit (.bool false)], args := [d1, d2, d3] }
  | _ => none }
def WideRingWrongFalsely : Prop := wideRingRow.holds Try.pinned (OpenSpec.ofChange wideRingWrong)

/-- 'alidadelaw1.WideOrder': WHATEVER THE INPUT: true; the input reads as it did. -/
def wideOrderSpec : ChangeSpec := { name := "wideOrder", fn := fun _ => fun
  | [d1, d2, d3] => { results := [.lit (.bool true)], args := [d1, d2, d3] }
  | _ => none }
def wideOrderRow : OpenClaim := { program := "ytkepdjmgmjhejaa", sum := "a717b3b471b774a727259a4fac672491ecf151dfdea090b254aea93d9c3e0c96", func := "alidade/alidadelaw1.WideOrder", spec := "wideOrder", inPlace := ["math/bits.Add64", "math/bits.Sub64"], named := ["math/bits.divideError", "math/bits.overflowError"], apart := false }
def WideOrderSaid : Prop := wideOrderRow.holds Try.pinned (OpenSpec.ofChange wideOrderSpec)

/-- ITS FALSE NEIGHBOUR: 'it returns false'. Refute it at one input. -/
def wideOrderWrong : ChangeSpec := { name := "wideOrder", fn := fun _ => fun
  | [d1, d2, d3] => { results := [.lit (.bool false)], args := [d1, d2, d3] }
  | _ => none }
def WideOrderWrongFalsely : Prop := wideOrderRow.holds Try.pinned (OpenSpec.ofChange wideOrderWrong)

/-- 'alidadelaw1.WideSigns': WHATEVER THE INPUT: true; the input reads as it did. -/
def wideSignsSpec : ChangeSpec := { name := "wideSigns", fn := fun _ => fun
  | [d1, d2] => { results := [.lit (.bool true)], args := [d1, d2] }
  | _ => none }
def wideSignsRow : OpenClaim := { program := "ytkepdjmgmjhejaa", sum := "a717b3b471b774a727259a4fac672491ecf151dfdea090b254aea93d9c3e0c96", func := "alidade/alidadelaw1.WideSigns", spec := "wideSigns", inPlace := ["math/bits.Add64", "math/bits.Sub64"], named := ["math/bits.divideError", "math/bits.overflowError"], apart := false }
def WideSignsSaid : Prop := wideSignsRow.holds Try.pinned (OpenSpec.ofChange wideSignsSpec)

/-- ITS FALSE NEIGHBOUR: 'it returns false'. Refute it at one input. -/
def wideSignsWrong : ChangeSpec := { name := "wideSigns", fn := fun _ => fun
  | [d1, d2] => { results := [.lit (.bool false)], args := [d1, d2] }
  | _ => none }
def WideSignsWrongFalsely : Prop := wideSignsRow.holds Try.pinned (OpenSpec.ofChange wideSignsWrong)

/-- 'alidadelaw1.WideShifts': WHATEVER THE INPUT: true; the input reads as it did. -/
def wideShiftsSpec : ChangeSpec := { name := "wideShifts", fn := fun _ => fun
  | [d1, d2] => { results := [.lit (.bool true)], args := [d1, d2] }
  | _ => none }
def wideShiftsRow : OpenClaim := { program := "ytkepdjmgmjhejaa", sum := "a717b3b471b774a727259a4fac672491ecf151dfdea090b254aea93d9c3e0c96", func := "alidade/alidadelaw1.WideShifts", spec := "wideShifts", inPlace := ["math/bits.Add64", "math/bits.Sub64"], named := ["math/bits.divideError", "math/bits.overflowError"], apart := false }
def WideShiftsSaid : Prop := wideShiftsRow.holds Try.pinned (OpenSpec.ofChange wideShiftsSpec)

/-- ITS FALSE NEIGHBOUR: 'it returns false'. Refute it at one input. -/
def wideShiftsWrong : ChangeSpec := { name := "wideShifts", fn := fun _ => fun
  | [d1, d2] => { results := [.lit (.bool false)], args := [d1, d2] }
  | _ => none }
def WideShiftsWrongFalsely : Prop := wideShiftsRow.holds Try.pinned (OpenSpec.ofChange wideShiftsWrong)

/-- 'alidadelaw1.WideSums': WHATEVER THE INPUT: true; the input reads as it did. -/
def wideSumsSpec : ChangeSpec := { name := "wideSums", fn := fun _ => fun
  | [d1, d2, d3] => { results := [.lit (.bool true)], args := [d1, d2, d3] }
  | _ => none }
def wideSumsRow : OpenClaim := { program := "ytkepdjmgmjhejaa", sum := "a717b3b471b774a727259a4fac672491ecf151dfdea090b254aea93d9c3e0c96", func := "alidade/alidadelaw1.WideSums", spec := "wideSums", inPlace := ["math/bits.Add64", "math/bits.Sub64"], named := ["math/bits.divideError", "math/bits.overflowError"], apart := false }
def WideSumsSaid : Prop := wideSumsRow.holds Try.pinned (OpenSpec.ofChange wideSumsSpec)

/-- ITS FALSE NEIGHBOUR: 'it returns false'. Refute it at one input. -/
def wideSumsWrong : ChangeSpec := { name := "wideSums", fn := fun _ => fun
  | [d1, d2, d3] => { results := [.lit (.bool false)], args := [d1, d2, d3] }
  | _ => none }
def WideSumsWrongFalsely : Prop := wideSumsRow.holds Try.pinned (OpenSpec.ofChange wideSumsWrong)

/-- 'alidadelaw1.WideMakes': WHATEVER THE INPUT: true; the input reads as it did. -/
def wideMakesSpec : ChangeSpec := { name := "wideMakes", fn := fun _ => fun
  | [d1, d2, d3] => { results := [.lit (.bool true)], args := [d1, d2, d3] }
  | _ => none }
def wideMakesRow : OpenClaim := { program := "ytkepdjmgmjhejaa", sum := "a717b3b471b774a727259a4fac672491ecf151dfdea090b254aea93d9c3e0c96", func := "alidade/alidadelaw1.WideMakes", spec := "wideMakes", inPlace := ["math/bits.Add64", "math/bits.Sub64"], named := ["math/bits.divideError", "math/bits.overflowError"], apart := false }
def WideMakesSaid : Prop := wideMakesRow.holds Try.pinned (OpenSpec.ofChange wideMakesSpec)

/-- ITS FALSE NEIGHBOUR: 'it returns false'. Refute it at one input. -/
def wideMakesWrong : ChangeSpec := { name := "wideMakes", fn := fun _ => fun
  | [d1, d2, d3] => { results := [.lit (.bool false)], args := [d1, d2, d3] }
  | _ => none }
def WideMakesWrongFalsely : Prop := wideMakesRow.holds Try.pinned (OpenSpec.ofChange wideMakesWrong)

/-- 'alidadelaw1.WideParts': WHATEVER THE INPUT: true; the input reads as it did. -/
def widePartsSpec : ChangeSpec := { name := "wideParts", fn := fun _ => fun
  | [d1, d2] => { results := [.lit (.bool true)], args := [d1, d2] }
  | _ => none }
def widePartsRow : OpenClaim := { program := "ytkepdjmgmjhejaa", sum := "a717b3b471b774a727259a4fac672491ecf151dfdea090b254aea93d9c3e0c96", func := "alidade/alidadelaw1.WideParts", spec := "wideParts", inPlace := ["math/bits.Add64", "math/bits.Sub64"], named := ["math/bits.divideError", "math/bits.overflowError"], apart := false }
def WidePartsSaid : Prop := widePartsRow.holds Try.pinned (OpenSpec.ofChange widePartsSpec)

/-- ITS FALSE NEIGHBOUR: 'it returns false'. Refute it at one input. -/
def widePartsWrong : ChangeSpec := { name := "wideParts", fn := fun _ => fun
  | [d1, d2] => { results := [.lit (.bool false)], args := [d1, d2] }
  | _ => none }
def WidePartsWrongFalsely : Prop := widePartsRow.holds Try.pinned (OpenSpec.ofChange widePartsWrong)

/-- 'alidadelaw3.MatForms': WHATEVER THE INPUT: true; the input reads as it did. -/
def matFormsSpec : ChangeSpec := { name := "matForms", fn := fun _ => fun
  | [d1, d2, d3] => { results := [.lit (.bool true)], args := [d1, d2, d3] }
  | _ => none }
def matFormsRow : OpenClaim := { program := "ytkepdjmgmjhejaa", sum := "a717b3b471b774a727259a4fac672491ecf151dfdea090b254aea93d9c3e0c96", func := "alidade/alidadelaw3.MatForms", spec := "matForms", inPlace := ["math/bits.Add64", "math/bits.Sub64"], unfollowed := true, recurses := true, apart := false }
def MatFormsSaid : Prop := matFormsRow.holds Try.pinned (OpenSpec.ofChange matFormsSpec)

/-- ITS FALSE NEIGHBOUR: 'it returns false'. Refute it at one input. -/
def matFormsWrong : ChangeSpec := { name := "matForms", fn := fun _ => fun
  | [d1, d2, d3] => { results := [.lit (.bool false)], args := [d1, d2, d3] }
  | _ => none }
def MatFormsWrongFalsely : Prop := matFormsRow.holds Try.pinned (OpenSpec.ofChange matFormsWrong)

/-- 'alidadelaw2.RootPlain': WHATEVER THE INPUT: true; the input reads as it did. -/
def rootPlainSpec : ChangeSpec := { name := "rootPlain", fn := fun _ => fun
  | [d1, d2, d3, d4] => { results := [.lit (.bool true)], args := [d1, d2, d3, d4] }
  | _ => none }
def rootPlainRow : OpenClaim := { program := "ytkepdjmgmjhejaa", sum := "a717b3b471b774a727259a4fac672491ecf151dfdea090b254aea93d9c3e0c96", func := "alidade/alidadelaw2.RootPlain", spec := "rootPlain", inPlace := ["math/bits.Add64", "math/bits.Sub64"], named := ["math/bits.divideError", "math/bits.overflowError"], apart := false }
def RootPlainSaid : Prop := rootPlainRow.holds Try.pinned (OpenSpec.ofChange rootPlainSpec)

/-- ITS FALSE NEIGHBOUR: 'it returns false'. Refute it at one input. -/
def rootPlainWrong : ChangeSpec := { name := "rootPlain", fn := fun _ => fun
  | [d1, d2, d3, d4] => { results := [.lit (.bool false)], args := [d1, d2, d3, d4] }
  | _ => none }
def RootPlainWrongFalsely : Prop := rootPlainRow.holds Try.pinned (OpenSpec.ofChange rootPlainWrong)

/- THE SECOND FORM. 'bulk': how many values and letters a reading holds, each counted each time it is reached (what is shared counts as often as it is met; a slice's spare places count too). A statement '..UptoSaid' is the law's where the arguments, and the package variables that the reading takes, are together of bulk at most 1048576: NARROWER than '..Said'. Prove '..Said' where nothing that the law and all that it calls make is longer than what came in: it says more and counts as full. Else prove '..UptoSaid'. A law counts once. -/
mutual
def uptoBulk {H : Type} : DataW H → Nat
  | .lit (.string bytes) => bytes.length + 1
  | .lit _ => 1
  | .nil => 1
  | .ptr d => uptoBulk d + 1
  | .slice elems spare => uptoBulkAll elems + uptoBulkAll spare + 1
  | .agg parts => uptoBulkAll parts + 1
  | .iface _ d => uptoBulk d + 1
  | .map entries => uptoBulkEntries entries + 1
  | .held _ => 1
def uptoBulkAll {H : Type} : List (DataW H) → Nat
  | [] => 0
  | d :: r => uptoBulk d + uptoBulkAll r
def uptoBulkEntries {H : Type} : List (Lit × DataW H) → Nat
  | [] => 0
  | x :: r => uptoBulkEntry x + uptoBulkEntries r
def uptoBulkEntry {H : Type} : Lit × DataW H → Nat
  | (.string bytes, d) => bytes.length + uptoBulk d + 1
  | (_, d) => uptoBulk d + 1
 end
def uptoSmall : (H : Type) → List (DataW H) → Bool := fun _ ds => decide (uptoBulkAll ds ≤ 1048576)
def OpenSpec.upto (s : _root_.Go.ChangeSpec) : _root_.Go.OpenSpec := { _root_.Go.OpenSpec.ofChange s with cond := some uptoSmall }

/-- 'alidadelaw1.WideRing', WHERE WHAT IT READS IS OF BULK AT MOST 1048576: true; the input reads as it did. -/
def wideRingUptoRow : OpenClaim := { program := "ytkepdjmgmjhejaa", sum := "a717b3b471b774a727259a4fac672491ecf151dfdea090b254aea93d9c3e0c96", func := "alidade/alidadelaw1.WideRing", spec := "wideRing", inPlace := ["math/bits.Add64", "math/bits.Sub64"], unfollowed := true, recurses := true, named := ["math/bits.divideError", "math/bits.overflowError"], apart := false, narrowed := true }
def WideRingUptoSaid : Prop := wideRingUptoRow.holds Try.pinned (OpenSpec.upto wideRingSpec)

/-- 'alidadelaw1.WideOrder', WHERE WHAT IT READS IS OF BULK AT MOST 1048576: true; the input reads as it did. -/
def wideOrderUptoRow : OpenClaim := { program := "ytkepdjmgmjhejaa", sum := "a717b3b471b774a727259a4fac672491ecf151dfdea090b254aea93d9c3e0c96", func := "alidade/alidadelaw1.WideOrder", spec := "wideOrder", inPlace := ["math/bits.Add64", "math/bits.Sub64"], named := ["math/bits.divideError", "math/bits.overflowError"], apart := false, narrowed := true }
def WideOrderUptoSaid : Prop := wideOrderUptoRow.holds Try.pinned (OpenSpec.upto wideOrderSpec)

/-- 'alidadelaw1.WideSigns', WHERE WHAT IT READS IS OF BULK AT MOST 1048576: true; the input reads as it did. -/
def wideSignsUptoRow : OpenClaim := { program := "ytkepdjmgmjhejaa", sum := "a717b3b471b774a727259a4fac672491ecf151dfdea090b254aea93d9c3e0c96", func := "alidade/alidadelaw1.WideSigns", spec := "wideSigns", inPlace := ["math/bits.Add64", "math/bits.Sub64"], named := ["math/bits.divideError", "math/bits.overflowError"], apart := false, narrowed := true }
def WideSignsUptoSaid : Prop := wideSignsUptoRow.holds Try.pinned (OpenSpec.upto wideSignsSpec)

/-- 'alidadelaw1.WideShifts', WHERE WHAT IT READS IS OF BULK AT MOST 1048576: true; the input reads as it did. -/
def wideShiftsUptoRow : OpenClaim := { program := "ytkepdjmgmjhejaa", sum := "a717b3b471b774a727259a4fac672491ecf151dfdea090b254aea93d9c3e0c96", func := "alidade/alidadelaw1.WideShifts", spec := "wideShifts", inPlace := ["math/bits.Add64", "math/bits.Sub64"], named := ["math/bits.divideError", "math/bits.overflowError"], apart := false, narrowed := true }
def WideShiftsUptoSaid : Prop := wideShiftsUptoRow.holds Try.pinned (OpenSpec.upto wideShiftsSpec)

/-- 'alidadelaw1.WideSums', WHERE WHAT IT READS IS OF BULK AT MOST 1048576: true; the input reads as it did. -/
def wideSumsUptoRow : OpenClaim := { program := "ytkepdjmgmjhejaa", sum := "a717b3b471b774a727259a4fac672491ecf151dfdea090b254aea93d9c3e0c96", func := "alidade/alidadelaw1.WideSums", spec := "wideSums", inPlace := ["math/bits.Add64", "math/bits.Sub64"], named := ["math/bits.divideError", "math/bits.overflowError"], apart := false, narrowed := true }
def WideSumsUptoSaid : Prop := wideSumsUptoRow.holds Try.pinned (OpenSpec.upto wideSumsSpec)

/-- 'alidadelaw1.WideMakes', WHERE WHAT IT READS IS OF BULK AT MOST 1048576: true; the input reads as it did. -/
def wideMakesUptoRow : OpenClaim := { program := "ytkepdjmgmjhejaa", sum := "a717b3b471b774a727259a4fac672491ecf151dfdea090b254aea93d9c3e0c96", func := "alidade/alidadelaw1.WideMakes", spec := "wideMakes", inPlace := ["math/bits.Add64", "math/bits.Sub64"], named := ["math/bits.divideError", "math/bits.overflowError"], apart := false, narrowed := true }
def WideMakesUptoSaid : Prop := wideMakesUptoRow.holds Try.pinned (OpenSpec.upto wideMakesSpec)

/-- 'alidadelaw1.WideParts', WHERE WHAT IT READS IS OF BULK AT MOST 1048576: true; the input reads as it did. -/
def widePartsUptoRow : OpenClaim := { program := "ytkepdjmgmjhejaa", sum := "a717b3b471b774a727259a4fac672491ecf151dfdea090b254aea93d9c3e0c96", func := "alidade/alidadelaw1.WideParts", spec := "wideParts", inPlace := ["math/bits.Add64", "math/bits.Sub64"], named := ["math/bits.divideError", "math/bits.overflowError"], apart := false, narrowed := true }
def WidePartsUptoSaid : Prop := widePartsUptoRow.holds Try.pinned (OpenSpec.upto widePartsSpec)

/-- 'alidadelaw3.MatForms', WHERE WHAT IT READS IS OF BULK AT MOST 1048576: true; the input reads as it did. -/
def matFormsUptoRow : OpenClaim := { program := "ytkepdjmgmjhejaa", sum := "a717b3b471b774a727259a4fac672491ecf151dfdea090b254aea93d9c3e0c96", func := "alidade/alidadelaw3.MatForms", spec := "matForms", inPlace := ["math/bits.Add64", "math/bits.Sub64"], unfollowed := true, recurses := true, apart := false, narrowed := true }
def MatFormsUptoSaid : Prop := matFormsUptoRow.holds Try.pinned (OpenSpec.upto matFormsSpec)

/-- 'alidadelaw2.RootPlain', WHERE WHAT IT READS IS OF BULK AT MOST 1048576: true; the input reads as it did. -/
def rootPlainUptoRow : OpenClaim := { program := "ytkepdjmgmjhejaa", sum := "a717b3b471b774a727259a4fac672491ecf151dfdea090b254aea93d9c3e0c96", func := "alidade/alidadelaw2.RootPlain", spec := "rootPlain", inPlace := ["math/bits.Add64", "math/bits.Sub64"], named := ["math/bits.divideError", "math/bits.overflowError"], apart := false, narrowed := true }
def RootPlainUptoSaid : Prop := rootPlainUptoRow.holds Try.pinned (OpenSpec.upto rootPlainSpec)

end Rows
end Go.Proofs.Ytkepdjmgmjhejaa
