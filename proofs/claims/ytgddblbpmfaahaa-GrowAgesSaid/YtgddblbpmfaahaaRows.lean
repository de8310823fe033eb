/-
  No cell of these rows narrows 'for every input' (looked for: loops, veiled, ifaces, maps, wideKeys, modest, calm, conditions, laid).
  DERIVED. THE GIVEN ROWS OF THIS SEAT. 7 by the template 'for every input the law returns true; each argument reads behind the call as it read before'; 0 by the template 'total and deterministic' (their statements: YtgddblbpmfaahaaTotals.lean).
  GIVEN WITH THE SEED: the statements are not yours to turn. If you find one false, say at which input.
  Laid BY PROGRAM, IN A SANDBOX (cutbox-rows.mjs): the forced cells as the released guide's own fill.sh prints them over the translation 1b4f3671ec3cec92… (all of the seat's roots in one cut). By AI agents, Wed Nov 11 2026. No macro, syntax, notation, axiom, sorry.
-/
import Derived.Test.YtgddblbpmfaahaaChecked
import GoSem.Claim
import GoSem.ClaimJoined
import GoSem.ClaimMapViews
import Derived.JoinedTies
import Derived.KernelRfl
namespace Go.Proofs.Ytgddblbpmfaahaa
/- THE CELL 'sum', in the pinned program and in every row, IS THE sha256 OF THE DUMP (.gsa) THAT YtgddblbpmfaahaaProg.lean LOADS. Nothing in Lean hashes anything: it is a label: what it is worth is what the hold of that sum in a sandbox is worth. -/
noncomputable def Try.pinned : Pinned := { name := "ytgddblbpmfaahaa", sum := "1b4f3671ec3cec92786c89c6eec7110d2430c65a8f3a3e53ff1baf649c053716", checked := Try.checked }
namespace Rows
def none {H : Type} : Left H := { results := [], args := [] }

/-- 'alidadelaw5.GrowTurns': WHATEVER THE INPUT: true; the input reads as it did. -/
def growTurnsSpec : ChangeSpec := { name := "growTurns", fn := fun _ => fun
  | [d1, d2] => { results := [.lit (.bool true)], args := [d1, d2] }
  | _ => none }
def growTurnsRow : OpenClaim := { program := "ytgddblbpmfaahaa", sum := "1b4f3671ec3cec92786c89c6eec7110d2430c65a8f3a3e53ff1baf649c053716", func := "alidade/alidadelaw5.GrowTurns", spec := "growTurns", inPlace := ["math/bits.Add64", "math/bits.Sub64"], unfollowed := true, recurses := true, named := ["math/bits.divideError", "math/bits.overflowError"], apart := false }
def GrowTurnsSaid : Prop := growTurnsRow.holds Try.pinned (OpenSpec.ofChange growTurnsSpec)

/-- ITS FALSE NEIGHBOUR: 'it returns false'. Refute it at one input. -/
def growTurnsWrong : ChangeSpec := { name := "growTurns", fn := fun _ => fun
  | [d1, d2] => { results := [.lit (.bool false)], args := [d1, d2] }
  | _ => none }
def GrowTurnsWrongFalsely : Prop := growTurnsRow.holds Try.pinned (OpenSpec.ofChange growTurnsWrong)

/-- 'alidadelaw5.GrowForms': WHATEVER THE INPUT: true; the input reads as it did. -/
def growFormsSpec : ChangeSpec := { name := "growForms", fn := fun _ => fun
  | [d1, d2, d3, d4, d5] => { results := [.lit (.bool true)], args := [d1, d2, d3, d4, d5] }
  | _ => none }
def growFormsRow : OpenClaim := { program := "ytgddblbpmfaahaa", sum := "1b4f3671ec3cec92786c89c6eec7110d2430c65a8f3a3e53ff1baf649c053716", func := "alidade/alidadelaw5.GrowForms", spec := "growForms", inPlace := ["math/bits.Add64", "math/bits.Sub64"], unfollowed := true, recurses := true, named := ["math/bits.divideError", "math/bits.overflowError"], apart := false }
def GrowFormsSaid : Prop := growFormsRow.holds Try.pinned (OpenSpec.ofChange growFormsSpec)

/-- ITS FALSE NEIGHBOUR: 'it returns false'. Refute it at one input. -/
def growFormsWrong : ChangeSpec := { name := "growForms", fn := fun _ => fun
  | [d1, d2, d3, d4, d5] => { results := [.lit (.bool false)], args := [d1, d2, d3, d4, d5] }
  | _ => none }
def GrowFormsWrongFalsely : Prop := growFormsRow.holds Try.pinned (OpenSpec.ofChange growFormsWrong)

/-- 'alidadelaw5.GrowAtLeast': WHATEVER THE INPUT: true; the input reads as it did. -/
def growAtLeastSpec : ChangeSpec := { name := "growAtLeast", fn := fun _ => fun
  | [d1, d2] => { results := [.lit (.bool true)], args := [d1, d2] }
  | _ => none }
def growAtLeastRow : OpenClaim := { program := "ytgddblbpmfaahaa", sum := "1b4f3671ec3cec92786c89c6eec7110d2430c65a8f3a3e53ff1baf649c053716", func := "alidade/alidadelaw5.GrowAtLeast", spec := "growAtLeast", inPlace := ["math/bits.Add64", "math/bits.Sub64"], unfollowed := true, recurses := true, named := ["math/bits.divideError", "math/bits.overflowError"], apart := false }
def GrowAtLeastSaid : Prop := growAtLeastRow.holds Try.pinned (OpenSpec.ofChange growAtLeastSpec)

/-- ITS FALSE NEIGHBOUR: 'it returns false'. Refute it at one input. -/
def growAtLeastWrong : ChangeSpec := { name := "growAtLeast", fn := fun _ => fun
  | [d1, d2] => { results := [.lit (.bool false)], args := [d1, d2] }
  | _ => none }
def GrowAtLeastWrongFalsely : Prop := growAtLeastRow.holds Try.pinned (OpenSpec.ofChange growAtLeastWrong)

/-- 'alidadelaw5.GrowNothing': WHATEVER THE INPUT: true; the input reads as it did. -/
def growNothingSpec : ChangeSpec := { name := "growNothing", fn := fun _ => fun
  | [d1, d2] => { results := [.lit (.bool true)], args := [d1, d2] }
  | _ => none }
def growNothingRow : OpenClaim := { program := "ytgddblbpmfaahaa", sum := "1b4f3671ec3cec92786c89c6eec7110d2430c65a8f3a3e53ff1baf649c053716", func := "alidade/alidadelaw5.GrowNothing", spec := "growNothing", inPlace := ["math/bits.Add64", "math/bits.Sub64"], unfollowed := true, recurses := true, named := ["math/bits.divideError", "math/bits.overflowError"], apart := false }
def GrowNothingSaid : Prop := growNothingRow.holds Try.pinned (OpenSpec.ofChange growNothingSpec)

/-- ITS FALSE NEIGHBOUR: 'it returns false'. Refute it at one input. -/
def growNothingWrong : ChangeSpec := { name := "growNothing", fn := fun _ => fun
  | [d1, d2] => { results := [.lit (.bool false)], args := [d1, d2] }
  | _ => none }
def GrowNothingWrongFalsely : Prop := growNothingRow.holds Try.pinned (OpenSpec.ofChange growNothingWrong)

/-- 'alidadelaw5.GrowHolds': WHATEVER THE INPUT: true; the input reads as it did. -/
def growHoldsSpec : ChangeSpec := { name := "growHolds", fn := fun _ => fun
  | [d1, d2, d3, d4] => { results := [.lit (.bool true)], args := [d1, d2, d3, d4] }
  | _ => none }
def growHoldsRow : OpenClaim := { program := "ytgddblbpmfaahaa", sum := "1b4f3671ec3cec92786c89c6eec7110d2430c65a8f3a3e53ff1baf649c053716", func := "alidade/alidadelaw5.GrowHolds", spec := "growHolds", inPlace := ["math/bits.Add64", "math/bits.Sub64"], unfollowed := true, recurses := true, named := ["math/bits.divideError", "math/bits.overflowError"], apart := false }
def GrowHoldsSaid : Prop := growHoldsRow.holds Try.pinned (OpenSpec.ofChange growHoldsSpec)

/-- ITS FALSE NEIGHBOUR: 'it returns false'. Refute it at one input. -/
def growHoldsWrong : ChangeSpec := { name := "growHolds", fn := fun _ => fun
  | [d1, d2, d3, d4] => { results := [.lit (.bool false)], args := [d1, d2, d3, d4] }
  | _ => none }
def GrowHoldsWrongFalsely : Prop := growHoldsRow.holds Try.pinned (OpenSpec.ofChange growHoldsWrong)

/-- 'alidadelaw5.GrowBalls': WHATEVER THE INPUT: true; the input reads as it did. -/
def growBallsSpec : ChangeSpec := { name := "growBalls", fn := fun _ => fun
  | [d1, d2, d3, d4] => { results := [.lit (.bool true)], args := [d1, d2, d3, d4] }
  | _ => none }
def growBallsRow : OpenClaim := { program := "ytgddblbpmfaahaa", sum := "1b4f3671ec3cec92786c89c6eec7110d2430c65a8f3a3e53ff1baf649c053716", func := "alidade/alidadelaw5.GrowBalls", spec := "growBalls", inPlace := ["math/bits.Add64", "math/bits.Sub64"], unfollowed := true, recurses := true, named := ["math/bits.divideError", "math/bits.overflowError"], apart := false }
def GrowBallsSaid : Prop := growBallsRow.holds Try.pinned (OpenSpec.ofChange growBallsSpec)

/-- ITS FALSE NEIGHBOUR: 'it returns false'. Refute it at one input. -/
def growBallsWrong : ChangeSpec := { name := "growBalls", fn := fun _ => fun
  | [d1, d2, d3, d4] => { results := [.lit (.bool false)], args := [d1, d2, d3, d4] }
  | _ => none }
def GrowBallsWrongFalsely : Prop := growBallsRow.holds Try.pinned (OpenSpec.ofChange growBallsWrong)

/-- 'alidadelaw5.GrowAges': WHATEVER THE INPUT: true; the input reads as it did. -/
def growAgesSpec : ChangeSpec := { name := "growAges", fn := fun _ => fun
  | [d1, d2, d3, d4, d5, d6, d7] => { results := [.lit (.bool true)], args := [d1, d2, d3, d4, d5, d6, d7] }
  | _ => none }
def growAgesRow : OpenClaim := { program := "ytgddblbpmfaahaa", sum := "1b4f3671ec3cec92786c89c6eec7110d2430c65a8f3a3e53ff1baf649c053716", func := "alidade/alidadelaw5.GrowAges", spec := "growAges", inPlace := ["math/bits.Add64", "math/bits.Sub64"], unfollowed := true, recurses := true, named := ["math/bits.divideError", "math/bits.overflowError"], apart := false }
def GrowAgesSaid : Prop := growAgesRow.holds Try.pinned (OpenSpec.ofChange growAgesSpec)

/-- ITS FALSE NEIGHBOUR: 'it returns false'. Refute it at one input. -/
def growAgesWrong : ChangeSpec := { name := "growAges", fn := fun _ => fun
  | [d1, d2, d3, d4, d5, d6, d7] => { results := [.lit (.bool false)], args := [d1, d2, d3, d4, d5, d6, d7] }
  | _ => none }
def GrowAgesWrongFalsely : Prop := growAgesRow.holds Try.pinned (OpenSpec.ofChange growAgesWrong)

/- THE SECOND FORM. 'bulk': how many values and letters a reading holds, each counted each time it is reached (what is shared counts as often as it is met; a slice's spare places count too). A statement '..UptoSaid' is the law's where the arguments, and the package variables that the reading takes, are together of bulk at most 1048576: NARROWER than '..Said'. Prove '..Said' where nothing that the law and all that it calls make is longer than what came in: it says more and counts as full. Else prove '..UptoSaid'. A law counts once. -/
mutual
def uptoBulk {H : Type} : DataW H → Nat
  | .lit (.string bytes) => bytes.length + 1
  | .lit _ => 1
  | .nil => 1
  | .ptr d => uptoBulk d + 1
  | .slice elems spare => uptoBulkAll elems + uptoBulkAll spare + 1
  | .agg parts => uptoBulkAll parts + 1
  | .iface _ d => uptoBulk d + 1
  | .map entries => uptoBulkEntries entries + 1
  | .held _ => 1
def uptoBulkAll {H : Type} : List (DataW H) → Nat
  | [] => 0
  | d :: r => uptoBulk d + uptoBulkAll r
def uptoBulkEntries {H : Type} : List (Lit × DataW H) → Nat
  | [] => 0
  | x :: r => uptoBulkEntry x + uptoBulkEntries r
def uptoBulkEntry {H : Type} : Lit × DataW H → Nat
  | (.string bytes, d) => bytes.length + uptoBulk d + 1
  | (_, d) => uptoBulk d + 1
 end
def uptoSmall : (H : Type) → List (DataW H) → Bool := fun _ ds => decide (uptoBulkAll ds ≤ 1048576)
def OpenSpec.upto (s : _root_.Go.ChangeSpec) : _root_.Go.OpenSpec := { _root_.Go.OpenSpec.ofChange s with cond := some uptoSmall }

/-- 'alidadelaw5.GrowTurns', WHERE WHAT IT READS IS OF BULK AT MOST 1048576: true; the input reads as it did. -/
def growTurnsUptoRow : OpenClaim := { program := "ytgddblbpmfaahaa", sum := "1b4f3671ec3cec92786c89c6eec7110d2430c65a8f3a3e53ff1baf649c053716", func := "alidade/alidadelaw5.GrowTurns", spec := "growTurns", inPlace := ["math/bits.Add64", "math/bits.Sub64"], unfollowed := true, recurses := true, named := ["math/bits.divideError", "math/bits.overflowError"], apart := false, narrowed := true }
def GrowTurnsUptoSaid : Prop := growTurnsUptoRow.holds Try.pinned (OpenSpec.upto growTurnsSpec)

/-- 'alidadelaw5.GrowForms', WHERE WHAT IT READS IS OF BULK AT MOST 1048576: true; the input reads as it did. -/
def growFormsUptoRow : OpenClaim := { program := "ytgddblbpmfaahaa", sum := "1b4f3671ec3cec92786c89c6eec7110d2430c65a8f3a3e53ff1baf649c053716", func := "alidade/alidadelaw5.GrowForms", spec := "growForms", inPlace := ["math/bits.Add64", "math/bits.Sub64"], unfollowed := true, recurses := true, named := ["math/bits.divideError", "math/bits.overflowError"], apart := false, narrowed := true }
def GrowFormsUptoSaid : Prop := growFormsUptoRow.holds Try.pinned (OpenSpec.upto growFormsSpec)

/-- 'alidadelaw5.GrowAtLeast', WHERE WHAT IT READS IS OF BULK AT MOST 1048576: true; the input reads as it did. -/
def growAtLeastUptoRow : OpenClaim := { program := "ytgddblbpmfaahaa", sum := "1b4f3671ec3cec92786c89c6eec7110d2430c65a8f3a3e53ff1baf649c053716", func := "alidade/alidadelaw5.GrowAtLeast", spec := "growAtLeast", inPlace := ["math/bits.Add64", "math/bits.Sub64"], unfollowed := true, recurses := true, named := ["math/bits.divideError", "math/bits.overflowError"], apart := false, narrowed := true }
def GrowAtLeastUptoSaid : Prop := growAtLeastUptoRow.holds Try.pinned (OpenSpec.upto growAtLeastSpec)

/-- 'alidadelaw5.GrowNothing', WHERE WHAT IT READS IS OF BULK AT MOST 1048576: true; the input reads as it did. -/
def growNothingUptoRow : OpenClaim := { program := "ytgddblbpmfaahaa", sum := "1b4f3671ec3cec92786c89c6eec7110d2430c65a8f3a3e53ff1baf649c053716", func := "alidade/alidadelaw5.GrowNothing", spec := "growNothing", inPlace := ["math/bits.Add64", "math/bits.Sub64"], unfollowed := true, recurses := true, named := ["math/bits.divideError", "math/bits.overflowError"], apart := false, narrowed := true }
def GrowNothingUptoSaid : Prop := growNothingUptoRow.holds Try.pinned (OpenSpec.upto growNothingSpec)

/-- 'alidadelaw5.GrowHolds', WHERE WHAT IT READS IS OF BULK AT MOST 1048576: true; the input reads as it did. -/
def growHoldsUptoRow : OpenClaim := { program := "ytgddblbpmfaahaa", sum := "1b4f3671ec3cec92786c89c6eec7110d2430c65a8f3a3e53ff1baf649c053716", func := "alidade/alidadelaw5.GrowHolds", spec := "growHolds", inPlace := ["math/bits.Add64", "math/bits.Sub64"], unfollowed := true, recurses := true, named := ["math/bits.divideError", "math/bits.overflowError"], apart := false, narrowed := true }
def GrowHoldsUptoSaid : Prop := growHoldsUptoRow.holds Try.pinned (OpenSpec.upto growHoldsSpec)

/-- 'alidadelaw5.GrowBalls', WHERE WHAT IT READS IS OF BULK AT MOST 1048576: true; the input reads as it did. -/
def growBallsUptoRow : OpenClaim := { program := "ytgddblbpmfaahaa", sum := "1b4f3671ec3cec92786c89c6eec7110d2430c65a8f3a3e53ff1baf649c053716", func := "alidade/alidadelaw5.GrowBalls", spec := "growBalls", inPlace := ["math/bits.Add64", "math/bits.Sub64"], unfollowed := true, recurses := true, named := ["math/bits.divideError", "math/bits.overflowError"], apart := false, narrowed := true }
def GrowBallsUptoSaid : Prop := growBallsUptoRow.holds Try.pinned (OpenSpec.upto growBallsSpec)

/-- 'alidadelaw5.GrowAges', WHERE WHAT IT READS IS OF BULK AT MOST 1048576: true; the input reads as it did. -/
def growAgesUptoRow : OpenClaim := { program := "ytgddblbpmfaahaa", sum := "1b4f3671ec3cec92786c89c6eec7110d2430c65a8f3a3e53ff1baf649c053716", func := "alidade/alidadelaw5.GrowAges", spec := "growAges", inPlace := ["math/bits.Add64", "math/bits.Sub64"], unfollowed := true, recurses := true, named := ["math/bits.divideError", "math/bits.overflowError"], apart := false, narrowed := true }
def GrowAgesUptoSaid : Prop := growAgesUptoRow.holds Try.pinned (OpenSpec.upto growAgesSpec)

end Rows
end Go.Proofs.Ytgddblbpmfaahaa
