/-
  No cell of these rows narrows 'for every input' (looked for: loops, veiled, ifaces, maps, wideKeys, modest, calm, conditions, laid).
  DERIVED. THE GIVEN ROWS OF THIS SEAT. 6 by the template 'for every input the law returns true; each argument reads behind the call as it read before'; 0 by the template 'total and deterministic' (their statements: YtcmgcndgdfblcaaTotals.lean).
  GIVEN WITH THE SEED: the statements are not yours to turn. If you find one false, say at which input.
  Laid BY PROGRAM, IN A SANDBOX (cutbox-rows.mjs): the forced cells as the released guide's own fill.sh prints them over the translation 8714e981bb686ab9… (all of the seat's roots in one cut). By AI agents, Wed Nov 11 2026. No macro, syntax, notation, axiom, sorry.
-/
import Derived.Test.YtcmgcndgdfblcaaChecked
import GoSem.Claim
import GoSem.ClaimJoined
import GoSem.ClaimMapViews
import Derived.JoinedTies
import Derived.KernelRfl
namespace Go.Proofs.Ytcmgcndgdfblcaa
/- THE CELL 'sum', in the pinned program and in every row, IS THE sha256 OF THE DUMP (.gsa) THAT YtcmgcndgdfblcaaProg.lean LOADS. Nothing in Lean hashes anything: it is a label: what it is worth is what the hold of that sum in a sandbox is worth. -/
noncomputable def Try.pinned : Pinned := { name := "ytcmgcndgdfblcaa", sum := "8714e981bb686ab962f0a2b36b9407a443f3210b4bd22555908891f48af029b8", checked := Try.checked }
namespace Rows
def none {H : Type} : Left H := { results := [], args := [] }

/-- 'alidadelaw3.MatOrder': WHATEVER THE INPUT: true; the input reads as it did. -/
def matOrderSpec : ChangeSpec := { name := "matOrder", fn := fun _ => fun
  | [d1, d2, d3] => { results := [.lit (.bool true)], args := [d1, d2, d3] }
  | _ => none }
def matOrderRow : OpenClaim := { program := "ytcmgcndgdfblcaa", sum := "8714e981bb686ab962f0a2b36b9407a443f3210b4bd22555908891f48af029b8", func := "alidade/alidadelaw3.MatOrder", spec := "matOrder", inPlace := ["math/bits.Add64", "math/bits.Sub64"], unfollowed := true, recurses := true, apart := false }
def MatOrderSaid : Prop := matOrderRow.holds Try.pinned (OpenSpec.ofChange matOrderSpec)

/-- ITS FALSE NEIGHBOUR: 'it returns false'. Refute it at one input. -/
def matOrderWrong : ChangeSpec := { name := "matOrder", fn := fun _ => fun
  | [d1, d2, d3] => { results := [.lit (.bool false)], args := [d1, d2, d3] }
  | _ => none }
def MatOrderWrongFalsely : Prop := matOrderRow.holds Try.pinned (OpenSpec.ofChange matOrderWrong)

/-- 'alidadelaw3.MatHolds': WHATEVER THE INPUT: true; the input reads as it did. -/
def matHoldsSpec : ChangeSpec := { name := "matHolds", fn := fun _ => fun
  | [d1, d2, d3, d4] => { results := [.lit (.bool true)], args := [d1, d2, d3, d4] }
  | _ => none }
def matHoldsRow : OpenClaim := { program := "ytcmgcndgdfblcaa", sum := "8714e981bb686ab962f0a2b36b9407a443f3210b4bd22555908891f48af029b8", func := "alidade/alidadelaw3.MatHolds", spec := "matHolds", inPlace := ["math/bits.Add64", "math/bits.Sub64"], unfollowed := true, recurses := true, apart := false }
def MatHoldsSaid : Prop := matHoldsRow.holds Try.pinned (OpenSpec.ofChange matHoldsSpec)

/-- ITS FALSE NEIGHBOUR: 'it returns false'. Refute it at one input. -/
def matHoldsWrong : ChangeSpec := { name := "matHolds", fn := fun _ => fun
  | [d1, d2, d3, d4] => { results := [.lit (.bool false)], args := [d1, d2, d3, d4] }
  | _ => none }
def MatHoldsWrongFalsely : Prop := matHoldsRow.holds Try.pinned (OpenSpec.ofChange matHoldsWrong)

/-- 'alidadelaw3.MatQuads': WHATEVER THE INPUT: true; the input reads as it did. -/
def matQuadsSpec : ChangeSpec := { name := "matQuads", fn := fun _ => fun
  | [d1, d2, d3] => { results := [.lit (.bool true)], args := [d1, d2, d3] }
  | _ => none }
def matQuadsRow : OpenClaim := { program := "ytcmgcndgdfblcaa", sum := "8714e981bb686ab962f0a2b36b9407a443f3210b4bd22555908891f48af029b8", func := "alidade/alidadelaw3.MatQuads", spec := "matQuads", inPlace := ["math/bits.Add64", "math/bits.Sub64"], unfollowed := true, recurses := true, apart := false }
def MatQuadsSaid : Prop := matQuadsRow.holds Try.pinned (OpenSpec.ofChange matQuadsSpec)

/-- ITS FALSE NEIGHBOUR: 'it returns false'. Refute it at one input. -/
def matQuadsWrong : ChangeSpec := { name := "matQuads", fn := fun _ => fun
  | [d1, d2, d3] => { results := [.lit (.bool false)], args := [d1, d2, d3] }
  | _ => none }
def MatQuadsWrongFalsely : Prop := matQuadsRow.holds Try.pinned (OpenSpec.ofChange matQuadsWrong)

/-- 'alidadelaw3.MatPsd': WHATEVER THE INPUT: true; the input reads as it did. -/
def matPsdSpec : ChangeSpec := { name := "matPsd", fn := fun _ => fun
  | [d1, d2] => { results := [.lit (.bool true)], args := [d1, d2] }
  | _ => none }
def matPsdRow : OpenClaim := { program := "ytcmgcndgdfblcaa", sum := "8714e981bb686ab962f0a2b36b9407a443f3210b4bd22555908891f48af029b8", func := "alidade/alidadelaw3.MatPsd", spec := "matPsd", inPlace := ["math/bits.Add64", "math/bits.Sub64"], unfollowed := true, recurses := true, apart := false }
def MatPsdSaid : Prop := matPsdRow.holds Try.pinned (OpenSpec.ofChange matPsdSpec)

/-- ITS FALSE NEIGHBOUR: 'it returns false'. Refute it at one input. -/
def matPsdWrong : ChangeSpec := { name := "matPsd", fn := fun _ => fun
  | [d1, d2] => { results := [.lit (.bool false)], args := [d1, d2] }
  | _ => none }
def MatPsdWrongFalsely : Prop := matPsdRow.holds Try.pinned (OpenSpec.ofChange matPsdWrong)

/-- 'alidadelaw3.MatAdj': WHATEVER THE INPUT: true; the input reads as it did. -/
def matAdjSpec : ChangeSpec := { name := "matAdj", fn := fun _ => fun
  | [d1, d2] => { results := [.lit (.bool true)], args := [d1, d2] }
  | _ => none }
def matAdjRow : OpenClaim := { program := "ytcmgcndgdfblcaa", sum := "8714e981bb686ab962f0a2b36b9407a443f3210b4bd22555908891f48af029b8", func := "alidade/alidadelaw3.MatAdj", spec := "matAdj", inPlace := ["math/bits.Add64", "math/bits.Sub64"], unfollowed := true, recurses := true, apart := false }
def MatAdjSaid : Prop := matAdjRow.holds Try.pinned (OpenSpec.ofChange matAdjSpec)

/-- ITS FALSE NEIGHBOUR: 'it returns false'. Refute it at one input. -/
def matAdjWrong : ChangeSpec := { name := "matAdj", fn := fun _ => fun
  | [d1, d2] => { results := [.lit (.bool false)], args := [d1, d2] }
  | _ => none }
def MatAdjWrongFalsely : Prop := matAdjRow.holds Try.pinned (OpenSpec.ofChange matAdjWrong)

/-- 'alidadelaw3.MatSums': WHATEVER THE INPUT: true; the input reads as it did. -/
def matSumsSpec : ChangeSpec := { name := "matSums", fn := fun _ => fun
  | [d1, d2, d3, d4] => { results := [.lit (.bool true)], args := [d1, d2, d3, d4] }
  | _ => none }
def matSumsRow : OpenClaim := { program := "ytcmgcndgdfblcaa", sum := "8714e981bb686ab962f0a2b36b9407a443f3210b4bd22555908891f48af029b8", func := "alidade/alidadelaw3.MatSums", spec := "matSums", inPlace := ["math/bits.Add64", "math/bits.Sub64"], unfollowed := true, recurses := true, apart := false }
def MatSumsSaid : Prop := matSumsRow.holds Try.pinned (OpenSpec.ofChange matSumsSpec)

/-- ITS FALSE NEIGHBOUR: 'it returns false'. Refute it at one input. -/
def matSumsWrong : ChangeSpec := { name := "matSums", fn := fun _ => fun
  | [d1, d2, d3, d4] => { results := [.lit (.bool false)], args := [d1, d2, d3, d4] }
  | _ => none }
def MatSumsWrongFalsely : Prop := matSumsRow.holds Try.pinned (OpenSpec.ofChange matSumsWrong)

/- THE SECOND FORM. 'bulk': how many values and letters a reading holds, each counted each time it is reached (what is shared counts as often as it is met; a slice's spare places count too). A statement '..UptoSaid' is the law's where the arguments, and the package variables that the reading takes, are together of bulk at most 1048576: NARROWER than '..Said'. Prove '..Said' where nothing that the law and all that it calls make is longer than what came in: it says more and counts as full. Else prove '..UptoSaid'. A law counts once. -/
mutual
def uptoBulk {H : Type} : DataW H → Nat
  | .lit (.string bytes) => bytes.length + 1
  | .lit _ => 1
  | .nil => 1
  | .ptr d => uptoBulk d + 1
  | .slice elems spare => uptoBulkAll elems + uptoBulkAll spare + 1
  | .agg parts => uptoBulkAll parts + 1
  | .iface _ d => uptoBulk d + 1
  | .map entries => uptoBulkEntries entries + 1
  | .held _ => 1
def uptoBulkAll {H : Type} : List (DataW H) → Nat
  | [] => 0
  | d :: r => uptoBulk d + uptoBulkAll r
def uptoBulkEntries {H : Type} : List (Lit × DataW H) → Nat
  | [] => 0
  | x :: r => uptoBulkEntry x + uptoBulkEntries r
def uptoBulkEntry {H : Type} : Lit × DataW H → Nat
  | (.string bytes, d) => bytes.length + uptoBulk d + 1
  | (_, d) => uptoBulk d + 1
 end
def uptoSmall : (H : Type) → List (DataW H) → Bool := fun _ ds => decide (uptoBulkAll ds ≤ 1048576)
def OpenSpec.upto (s : _root_.Go.ChangeSpec) : _root_.Go.OpenSpec := { _root_.Go.OpenSpec.ofChange s with cond := some uptoSmall }

/-- 'alidadelaw3.MatOrder', WHERE WHAT IT READS IS OF BULK AT MOST 1048576: true; the input reads as it did. -/
def matOrderUptoRow : OpenClaim := { program := "ytcmgcndgdfblcaa", sum := "8714e981bb686ab962f0a2b36b9407a443f3210b4bd22555908891f48af029b8", func := "alidade/alidadelaw3.MatOrder", spec := "matOrder", inPlace := ["math/bits.Add64", "math/bits.Sub64"], unfollowed := true, recurses := true, apart := false, narrowed := true }
def MatOrderUptoSaid : Prop := matOrderUptoRow.holds Try.pinned (OpenSpec.upto matOrderSpec)

/-- 'alidadelaw3.MatHolds', WHERE WHAT IT READS IS OF BULK AT MOST 1048576: true; the input reads as it did. -/
def matHoldsUptoRow : OpenClaim := { program := "ytcmgcndgdfblcaa", sum := "8714e981bb686ab962f0a2b36b9407a443f3210b4bd22555908891f48af029b8", func := "alidade/alidadelaw3.MatHolds", spec := "matHolds", inPlace := ["math/bits.Add64", "math/bits.Sub64"], unfollowed := true, recurses := true, apart := false, narrowed := true }
def MatHoldsUptoSaid : Prop := matHoldsUptoRow.holds Try.pinned (OpenSpec.upto matHoldsSpec)

/-- 'alidadelaw3.MatQuads', WHERE WHAT IT READS IS OF BULK AT MOST 1048576: true; the input reads as it did. -/
def matQuadsUptoRow : OpenClaim := { program := "ytcmgcndgdfblcaa", sum := "8714e981bb686ab962f0a2b36b9407a443f3210b4bd22555908891f48af029b8", func := "alidade/alidadelaw3.MatQuads", spec := "matQuads", inPlace := ["math/bits.Add64", "math/bits.Sub64"], unfollowed := true, recurses := true, apart := false, narrowed := true }
def MatQuadsUptoSaid : Prop := matQuadsUptoRow.holds Try.pinned (OpenSpec.upto matQuadsSpec)

/-- 'alidadelaw3.MatPsd', WHERE WHAT IT READS IS OF BULK AT MOST 1048576: true; the input reads as it did. -/
def matPsdUptoRow : OpenClaim := { program := "ytcmgcndgdfblcaa", sum := "8714e981bb686ab962f0a2b36b9407a443f3210b4bd22555908891f48af029b8", func := "alidade/alidadelaw3.MatPsd", spec := "matPsd", inPlace := ["math/bits.Add64", "math/bits.Sub64"], unfollowed := true, recurses := true, apart := false, narrowed := true }
def MatPsdUptoSaid : Prop := matPsdUptoRow.holds Try.pinned (OpenSpec.upto matPsdSpec)

/-- 'alidadelaw3.MatAdj', WHERE WHAT IT READS IS OF BULK AT MOST 1048576: true; the input reads as it did. -/
def matAdjUptoRow : OpenClaim := { program := "ytcmgcndgdfblcaa", sum := "8714e981bb686ab962f0a2b36b9407a443f3210b4bd22555908891f48af029b8", func := "alidade/alidadelaw3.MatAdj", spec := "matAdj", inPlace := ["math/bits.Add64", "math/bits.Sub64"], unfollowed := true, recurses := true, apart := false, narrowed := true }
def MatAdjUptoSaid : Prop := matAdjUptoRow.holds Try.pinned (OpenSpec.upto matAdjSpec)

/-- 'alidadelaw3.MatSums', WHERE WHAT IT READS IS OF BULK AT MOST 1048576: true; the input reads as it did. -/
def matSumsUptoRow : OpenClaim := { program := "ytcmgcndgdfblcaa", sum := "8714e981bb686ab962f0a2b36b9407a443f3210b4bd22555908891f48af029b8", func := "alidade/alidadelaw3.MatSums", spec := "matSums", inPlace := ["math/bits.Add64", "math/bits.Sub64"], unfollowed := true, recurses := true, apart := false, narrowed := true }
def MatSumsUptoSaid : Prop := matSumsUptoRow.holds Try.pinned (OpenSpec.upto matSumsSpec)

end Rows
end Go.Proofs.Ytcmgcndgdfblcaa
