/-
  No cell of these rows narrows 'for every input' (looked for: loops, veiled, ifaces, maps, wideKeys, modest, calm, conditions, laid).
  DERIVED. THE GIVEN ROWS OF THIS SEAT. 9 by the template 'for every input the law returns true; each argument reads behind the call as it read before'; 0 by the template 'total and deterministic' (their statements: YtilginoibhfeiaaGreatTotals.lean).
  GIVEN WITH THE SEED: the statements are not yours to turn. If you find one false, say at which input.
  Laid BY PROGRAM, IN A SANDBOX (cutbox-rows.mjs): the forced cells as the released guide's own fill.sh prints them over the translation 56558af5d5c54985… (all of the seat's roots in one cut). By AI agents, Wed Nov 11 2026. No macro, syntax, notation, axiom, sorry.
-/
import Derived.Test.YtilginoibhfeiaaGreatChecked
import GoSem.Claim
import GoSem.ClaimJoined
import GoSem.ClaimMapViews
import Derived.JoinedTies
import Derived.KernelRfl
namespace Go.Proofs.YtilginoibhfeiaaGreat
/- THE CELL 'sum', in the pinned program and in every row, IS THE sha256 OF THE DUMP (.gsa) THAT YtilginoibhfeiaaGreatProg.lean LOADS. Nothing in Lean hashes anything: it is a label: what it is worth is what the hold of that sum in a sandbox is worth. -/
noncomputable def Tryz.pinned : Pinned := { name := "ytilginoibhfeiaagreat", sum := "56558af5d5c54985e7dbb11082d2f51b3482b3bce0d1bcb3d5c532c00ca410a3", checked := Tryz.checked }
namespace Rows
def none {H : Type} : Left H := { results := [], args := [] }

/-- 'alidadelaw19.TrackMerges': WHATEVER THE INPUT: true; the input reads as it did. -/
def trackMergesSpec : ChangeSpec := { name := "trackMerges", fn := fun _ => fun
  | [d1, d2, d3] => { results := [.lit (.bool true)], args := [d1, d2, d3] }
  | _ => none }
def trackMergesRow : OpenClaim := { program := "ytilginoibhfeiaagreat", sum := "56558af5d5c54985e7dbb11082d2f51b3482b3bce0d1bcb3d5c532c00ca410a3", func := "alidade/alidadelaw19.TrackMerges", spec := "trackMerges", inPlace := ["math/bits.Add64", "math/bits.Sub64"], unfollowed := true, recurses := true, named := ["math/bits.divideError", "math/bits.overflowError"], apart := false }
def TrackMergesSaid : Prop := trackMergesRow.holds Tryz.pinned (OpenSpec.ofChange trackMergesSpec)

/-- ITS FALSE NEIGHBOUR: 'it returns false'. Refute it at one input. -/
def trackMergesWrong : ChangeSpec := { name := "trackMerges", fn := fun _ => fun
  | [d1, d2, d3] => { results := [.lit (.bool false)], args := [d1, d2, d3] }
  | _ => none }
def TrackMergesWrongFalsely : Prop := trackMergesRow.holds Tryz.pinned (OpenSpec.ofChange trackMergesWrong)

/-- 'alidadelaw8.StripHolds': WHATEVER THE INPUT: true; the input reads as it did. -/
def stripHoldsSpec : ChangeSpec := { name := "stripHolds", fn := fun _ => fun
  | [d1, d2, d3, d4, d5, d6] => { results := [.lit (.bool true)], args := [d1, d2, d3, d4, d5, d6] }
  | _ => none }
def stripHoldsRow : OpenClaim := { program := "ytilginoibhfeiaagreat", sum := "56558af5d5c54985e7dbb11082d2f51b3482b3bce0d1bcb3d5c532c00ca410a3", func := "alidade/alidadelaw8.StripHolds", spec := "stripHolds", inPlace := ["math/bits.Add64", "math/bits.Sub64"], unfollowed := true, recurses := true, named := ["math/bits.divideError", "math/bits.overflowError"], apart := false }
def StripHoldsSaid : Prop := stripHoldsRow.holds Tryz.pinned (OpenSpec.ofChange stripHoldsSpec)

/-- ITS FALSE NEIGHBOUR: 'it returns false'. Refute it at one input. -/
def stripHoldsWrong : ChangeSpec := { name := "stripHolds", fn := fun _ => fun
  | [d1, d2, d3, d4, d5, d6] => { results := [.lit (.bool false)], args := [d1, d2, d3, d4, d5, d6] }
  | _ => none }
def StripHoldsWrongFalsely : Prop := stripHoldsRow.holds Tryz.pinned (OpenSpec.ofChange stripHoldsWrong)

/-- 'alidadelaw18.FilterHolds': WHATEVER THE INPUT: true; the input reads as it did. -/
def filterHoldsSpec : ChangeSpec := { name := "filterHolds", fn := fun _ => fun
  | [d1, d2, d3, d4, d5] => { results := [.lit (.bool true)], args := [d1, d2, d3, d4, d5] }
  | _ => none }
def filterHoldsRow : OpenClaim := { program := "ytilginoibhfeiaagreat", sum := "56558af5d5c54985e7dbb11082d2f51b3482b3bce0d1bcb3d5c532c00ca410a3", func := "alidade/alidadelaw18.FilterHolds", spec := "filterHolds", inPlace := ["math/bits.Add64", "math/bits.Sub64"], unfollowed := true, recurses := true, named := ["math/bits.divideError", "math/bits.overflowError"], apart := false }
def FilterHoldsSaid : Prop := filterHoldsRow.holds Tryz.pinned (OpenSpec.ofChange filterHoldsSpec)

/-- ITS FALSE NEIGHBOUR: 'it returns false'. Refute it at one input. -/
def filterHoldsWrong : ChangeSpec := { name := "filterHolds", fn := fun _ => fun
  | [d1, d2, d3, d4, d5] => { results := [.lit (.bool false)], args := [d1, d2, d3, d4, d5] }
  | _ => none }
def FilterHoldsWrongFalsely : Prop := filterHoldsRow.holds Tryz.pinned (OpenSpec.ofChange filterHoldsWrong)

/-- 'alidadelaw6.InfoOf': WHATEVER THE INPUT: true; the input reads as it did. -/
def infoOfSpec : ChangeSpec := { name := "infoOf", fn := fun _ => fun
  | [d1, d2, d3, d4, d5] => { results := [.lit (.bool true)], args := [d1, d2, d3, d4, d5] }
  | _ => none }
def infoOfRow : OpenClaim := { program := "ytilginoibhfeiaagreat", sum := "56558af5d5c54985e7dbb11082d2f51b3482b3bce0d1bcb3d5c532c00ca410a3", func := "alidade/alidadelaw6.InfoOf", spec := "infoOf", inPlace := ["math/bits.Add64", "math/bits.Sub64"], unfollowed := true, recurses := true, named := ["math/bits.divideError", "math/bits.overflowError"], apart := false }
def InfoOfSaid : Prop := infoOfRow.holds Tryz.pinned (OpenSpec.ofChange infoOfSpec)

/-- ITS FALSE NEIGHBOUR: 'it returns false'. Refute it at one input. -/
def infoOfWrong : ChangeSpec := { name := "infoOf", fn := fun _ => fun
  | [d1, d2, d3, d4, d5] => { results := [.lit (.bool false)], args := [d1, d2, d3, d4, d5] }
  | _ => none }
def InfoOfWrongFalsely : Prop := infoOfRow.holds Tryz.pinned (OpenSpec.ofChange infoOfWrong)

/-- 'alidadelaw6.InfoEllipse': WHATEVER THE INPUT: true; the input reads as it did. -/
def infoEllipseSpec : ChangeSpec := { name := "infoEllipse", fn := fun _ => fun
  | [d] => { results := [.lit (.bool true)], args := [d] }
  | _ => none }
def infoEllipseRow : OpenClaim := { program := "ytilginoibhfeiaagreat", sum := "56558af5d5c54985e7dbb11082d2f51b3482b3bce0d1bcb3d5c532c00ca410a3", func := "alidade/alidadelaw6.InfoEllipse", spec := "infoEllipse", inPlace := ["math/bits.Add64", "math/bits.Sub64"], unfollowed := true, recurses := true, named := ["math/bits.divideError", "math/bits.overflowError"], apart := false }
def InfoEllipseSaid : Prop := infoEllipseRow.holds Tryz.pinned (OpenSpec.ofChange infoEllipseSpec)

/-- ITS FALSE NEIGHBOUR: 'it returns false'. Refute it at one input. -/
def infoEllipseWrong : ChangeSpec := { name := "infoEllipse", fn := fun _ => fun
  | [d] => { results := [.lit (.bool false)], args := [d] }
  | _ => none }
def InfoEllipseWrongFalsely : Prop := infoEllipseRow.holds Tryz.pinned (OpenSpec.ofChange infoEllipseWrong)

/-- 'alidadelaw6.InfoFuses': WHATEVER THE INPUT: true; the input reads as it did. -/
def infoFusesSpec : ChangeSpec := { name := "infoFuses", fn := fun _ => fun
  | [d1, d2, d3, d4] => { results := [.lit (.bool true)], args := [d1, d2, d3, d4] }
  | _ => none }
def infoFusesRow : OpenClaim := { program := "ytilginoibhfeiaagreat", sum := "56558af5d5c54985e7dbb11082d2f51b3482b3bce0d1bcb3d5c532c00ca410a3", func := "alidade/alidadelaw6.InfoFuses", spec := "infoFuses", inPlace := ["math/bits.Add64", "math/bits.Sub64"], unfollowed := true, recurses := true, named := ["math/bits.divideError", "math/bits.overflowError"], apart := false }
def InfoFusesSaid : Prop := infoFusesRow.holds Tryz.pinned (OpenSpec.ofChange infoFusesSpec)

/-- ITS FALSE NEIGHBOUR: 'it returns false'. Refute it at one input. -/
def infoFusesWrong : ChangeSpec := { name := "infoFuses", fn := fun _ => fun
  | [d1, d2, d3, d4] => { results := [.lit (.bool false)], args := [d1, d2, d3, d4] }
  | _ => none }
def InfoFusesWrongFalsely : Prop := infoFusesRow.holds Tryz.pinned (OpenSpec.ofChange infoFusesWrong)

/-- 'alidadelaw7.GoldenFuses': WHATEVER THE INPUT: true; the input reads as it did. -/
def goldenFusesSpec : ChangeSpec := { name := "goldenFuses", fn := fun _ => fun
  | [d1, d2, d3] => { results := [.lit (.bool true)], args := [d1, d2, d3] }
  | _ => none }
def goldenFusesRow : OpenClaim := { program := "ytilginoibhfeiaagreat", sum := "56558af5d5c54985e7dbb11082d2f51b3482b3bce0d1bcb3d5c532c00ca410a3", func := "alidade/alidadelaw7.GoldenFuses", spec := "goldenFuses", inPlace := ["math/bits.Add64", "math/bits.Sub64"], unfollowed := true, recurses := true, named := ["math/bits.divideError", "math/bits.overflowError"], apart := false }
def GoldenFusesSaid : Prop := goldenFusesRow.holds Tryz.pinned (OpenSpec.ofChange goldenFusesSpec)

/-- ITS FALSE NEIGHBOUR: 'it returns false'. Refute it at one input. -/
def goldenFusesWrong : ChangeSpec := { name := "goldenFuses", fn := fun _ => fun
  | [d1, d2, d3] => { results := [.lit (.bool false)], args := [d1, d2, d3] }
  | _ => none }
def GoldenFusesWrongFalsely : Prop := goldenFusesRow.holds Tryz.pinned (OpenSpec.ofChange goldenFusesWrong)

/-- 'alidadelaw19.TrackForms': WHATEVER THE INPUT: true; the input reads as it did. -/
def trackFormsSpec : ChangeSpec := { name := "trackForms", fn := fun _ => fun
  | [d1, d2, d3, d4, d5, d6] => { results := [.lit (.bool true)], args := [d1, d2, d3, d4, d5, d6] }
  | _ => none }
def trackFormsRow : OpenClaim := { program := "ytilginoibhfeiaagreat", sum := "56558af5d5c54985e7dbb11082d2f51b3482b3bce0d1bcb3d5c532c00ca410a3", func := "alidade/alidadelaw19.TrackForms", spec := "trackForms", inPlace := ["math/bits.Add64", "math/bits.Sub64"], unfollowed := true, recurses := true, named := ["math/bits.divideError", "math/bits.overflowError"], apart := false }
def TrackFormsSaid : Prop := trackFormsRow.holds Tryz.pinned (OpenSpec.ofChange trackFormsSpec)

/-- ITS FALSE NEIGHBOUR: 'it returns false'. Refute it at one input. -/
def trackFormsWrong : ChangeSpec := { name := "trackForms", fn := fun _ => fun
  | [d1, d2, d3, d4, d5, d6] => { results := [.lit (.bool false)], args := [d1, d2, d3, d4, d5, d6] }
  | _ => none }
def TrackFormsWrongFalsely : Prop := trackFormsRow.holds Tryz.pinned (OpenSpec.ofChange trackFormsWrong)

/-- 'alidadelaw8.StripForms': WHATEVER THE INPUT: true; the input reads as it did. -/
def stripFormsSpec : ChangeSpec := { name := "stripForms", fn := fun _ => fun
  | [d1, d2, d3, d4] => { results := [.lit (.bool true)], args := [d1, d2, d3, d4] }
  | _ => none }
def stripFormsRow : OpenClaim := { program := "ytilginoibhfeiaagreat", sum := "56558af5d5c54985e7dbb11082d2f51b3482b3bce0d1bcb3d5c532c00ca410a3", func := "alidade/alidadelaw8.StripForms", spec := "stripForms", inPlace := ["math/bits.Add64", "math/bits.Sub64"], unfollowed := true, recurses := true, named := ["math/bits.divideError", "math/bits.overflowError"], apart := false }
def StripFormsSaid : Prop := stripFormsRow.holds Tryz.pinned (OpenSpec.ofChange stripFormsSpec)

/-- ITS FALSE NEIGHBOUR: 'it returns false'. Refute it at one input. -/
def stripFormsWrong : ChangeSpec := { name := "stripForms", fn := fun _ => fun
  | [d1, d2, d3, d4] => { results := [.lit (.bool false)], args := [d1, d2, d3, d4] }
  | _ => none }
def StripFormsWrongFalsely : Prop := stripFormsRow.holds Tryz.pinned (OpenSpec.ofChange stripFormsWrong)

/- THE SECOND FORM. 'bulk': how many values and letters a reading holds, each counted each time it is reached (what is shared counts as often as it is met; a slice's spare places count too). A statement '..UptoSaid' is the law's where the arguments, and the package variables that the reading takes, are together of bulk at most 1048576: NARROWER than '..Said'. Prove '..Said' where nothing that the law and all that it calls make is longer than what came in: it says more and counts as full. Else prove '..UptoSaid'. A law counts once. -/
mutual
def uptoBulk {H : Type} : DataW H → Nat
  | .lit (.string bytes) => bytes.length + 1
  | .lit _ => 1
  | .nil => 1
  | .ptr d => uptoBulk d + 1
  | .slice elems spare => uptoBulkAll elems + uptoBulkAll spare + 1
  | .agg parts => uptoBulkAll parts + 1
  | .iface _ d => uptoBulk d + 1
  | .map entries => uptoBulkEntries entries + 1
  | .held _ => 1
def uptoBulkAll {H : Type} : List (DataW H) → Nat
  | [] => 0
  | d :: r => uptoBulk d + uptoBulkAll r
def uptoBulkEntries {H : Type} : List (Lit × DataW H) → Nat
  | [] => 0
  | x :: r => uptoBulkEntry x + uptoBulkEntries r
def uptoBulkEntry {H : Type} : Lit × DataW H → Nat
  | (.string bytes, d) => bytes.length + uptoBulk d + 1
  | (_, d) => uptoBulk d + 1
 end
def uptoSmall : (H : Type) → List (DataW H) → Bool := fun _ ds => decide (uptoBulkAll ds ≤ 1048576)
def OpenSpec.upto (s : _root_.Go.ChangeSpec) : _root_.Go.OpenSpec := { _root_.Go.OpenSpec.ofChange s with cond := some uptoSmall }

/-- 'alidadelaw19.TrackMerges', WHERE WHAT IT READS IS OF BULK AT MOST 1048576: true; the input reads as it did. -/
def trackMergesUptoRow : OpenClaim := { program := "ytilginoibhfeiaagreat", sum := "56558af5d5c54985e7dbb11082d2f51b3482b3bce0d1bcb3d5c532c00ca410a3", func := "alidade/alidadelaw19.TrackMerges", spec := "trackMerges", inPlace := ["math/bits.Add64", "math/bits.Sub64"], unfollowed := true, recurses := true, named := ["math/bits.divideError", "math/bits.overflowError"], apart := false, narrowed := true }
def TrackMergesUptoSaid : Prop := trackMergesUptoRow.holds Tryz.pinned (OpenSpec.upto trackMergesSpec)

/-- 'alidadelaw8.StripHolds', WHERE WHAT IT READS IS OF BULK AT MOST 1048576: true; the input reads as it did. -/
def stripHoldsUptoRow : OpenClaim := { program := "ytilginoibhfeiaagreat", sum := "56558af5d5c54985e7dbb11082d2f51b3482b3bce0d1bcb3d5c532c00ca410a3", func := "alidade/alidadelaw8.StripHolds", spec := "stripHolds", inPlace := ["math/bits.Add64", "math/bits.Sub64"], unfollowed := true, recurses := true, named := ["math/bits.divideError", "math/bits.overflowError"], apart := false, narrowed := true }
def StripHoldsUptoSaid : Prop := stripHoldsUptoRow.holds Tryz.pinned (OpenSpec.upto stripHoldsSpec)

/-- 'alidadelaw18.FilterHolds', WHERE WHAT IT READS IS OF BULK AT MOST 1048576: true; the input reads as it did. -/
def filterHoldsUptoRow : OpenClaim := { program := "ytilginoibhfeiaagreat", sum := "56558af5d5c54985e7dbb11082d2f51b3482b3bce0d1bcb3d5c532c00ca410a3", func := "alidade/alidadelaw18.FilterHolds", spec := "filterHolds", inPlace := ["math/bits.Add64", "math/bits.Sub64"], unfollowed := true, recurses := true, named := ["math/bits.divideError", "math/bits.overflowError"], apart := false, narrowed := true }
def FilterHoldsUptoSaid : Prop := filterHoldsUptoRow.holds Tryz.pinned (OpenSpec.upto filterHoldsSpec)

/-- 'alidadelaw6.InfoOf', WHERE WHAT IT READS IS OF BULK AT MOST 1048576: true; the input reads as it did. -/
def infoOfUptoRow : OpenClaim := { program := "ytilginoibhfeiaagreat", sum := "56558af5d5c54985e7dbb11082d2f51b3482b3bce0d1bcb3d5c532c00ca410a3", func := "alidade/alidadelaw6.InfoOf", spec := "infoOf", inPlace := ["math/bits.Add64", "math/bits.Sub64"], unfollowed := true, recurses := true, named := ["math/bits.divideError", "math/bits.overflowError"], apart := false, narrowed := true }
def InfoOfUptoSaid : Prop := infoOfUptoRow.holds Tryz.pinned (OpenSpec.upto infoOfSpec)

/-- 'alidadelaw6.InfoEllipse', WHERE WHAT IT READS IS OF BULK AT MOST 1048576: true; the input reads as it did. -/
def infoEllipseUptoRow : OpenClaim := { program := "ytilginoibhfeiaagreat", sum := "56558af5d5c54985e7dbb11082d2f51b3482b3bce0d1bcb3d5c532c00ca410a3", func := "alidade/alidadelaw6.InfoEllipse", spec := "infoEllipse", inPlace := ["math/bits.Add64", "math/bits.Sub64"], unfollowed := true, recurses := true, named := ["math/bits.divideError", "math/bits.overflowError"], apart := false, narrowed := true }
def InfoEllipseUptoSaid : Prop := infoEllipseUptoRow.holds Tryz.pinned (OpenSpec.upto infoEllipseSpec)

/-- 'alidadelaw6.InfoFuses', WHERE WHAT IT READS IS OF BULK AT MOST 1048576: true; the input reads as it did. -/
def infoFusesUptoRow : OpenClaim := { program := "ytilginoibhfeiaagreat", sum := "56558af5d5c54985e7dbb11082d2f51b3482b3bce0d1bcb3d5c532c00ca410a3", func := "alidade/alidadelaw6.InfoFuses", spec := "infoFuses", inPlace := ["math/bits.Add64", "math/bits.Sub64"], unfollowed := true, recurses := true, named := ["math/bits.divideError", "math/bits.overflowError"], apart := false, narrowed := true }
def InfoFusesUptoSaid : Prop := infoFusesUptoRow.holds Tryz.pinned (OpenSpec.upto infoFusesSpec)

/-- 'alidadelaw7.GoldenFuses', WHERE WHAT IT READS IS OF BULK AT MOST 1048576: true; the input reads as it did. -/
def goldenFusesUptoRow : OpenClaim := { program := "ytilginoibhfeiaagreat", sum := "56558af5d5c54985e7dbb11082d2f51b3482b3bce0d1bcb3d5c532c00ca410a3", func := "alidade/alidadelaw7.GoldenFuses", spec := "goldenFuses", inPlace := ["math/bits.Add64", "math/bits.Sub64"], unfollowed := true, recurses := true, named := ["math/bits.divideError", "math/bits.overflowError"], apart := false, narrowed := true }
def GoldenFusesUptoSaid : Prop := goldenFusesUptoRow.holds Tryz.pinned (OpenSpec.upto goldenFusesSpec)

/-- 'alidadelaw19.TrackForms', WHERE WHAT IT READS IS OF BULK AT MOST 1048576: true; the input reads as it did. -/
def trackFormsUptoRow : OpenClaim := { program := "ytilginoibhfeiaagreat", sum := "56558af5d5c54985e7dbb11082d2f51b3482b3bce0d1bcb3d5c532c00ca410a3", func := "alidade/alidadelaw19.TrackForms", spec := "trackForms", inPlace := ["math/bits.Add64", "math/bits.Sub64"], unfollowed := true, recurses := true, named := ["math/bits.divideError", "math/bits.overflowError"], apart := false, narrowed := true }
def TrackFormsUptoSaid : Prop := trackFormsUptoRow.holds Tryz.pinned (OpenSpec.upto trackFormsSpec)

/-- 'alidadelaw8.StripForms', WHERE WHAT IT READS IS OF BULK AT MOST 1048576: true; the input reads as it did. -/
def stripFormsUptoRow : OpenClaim := { program := "ytilginoibhfeiaagreat", sum := "56558af5d5c54985e7dbb11082d2f51b3482b3bce0d1bcb3d5c532c00ca410a3", func := "alidade/alidadelaw8.StripForms", spec := "stripForms", inPlace := ["math/bits.Add64", "math/bits.Sub64"], unfollowed := true, recurses := true, named := ["math/bits.divideError", "math/bits.overflowError"], apart := false, narrowed := true }
def StripFormsUptoSaid : Prop := stripFormsUptoRow.holds Tryz.pinned (OpenSpec.upto stripFormsSpec)

end Rows
end Go.Proofs.YtilginoibhfeiaaGreat
