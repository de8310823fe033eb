/-
  No cell of these rows narrows 'for every input' (looked for: loops, veiled, ifaces, maps, wideKeys, modest, calm, conditions, laid).
  DERIVED. THE GIVEN ROWS OF THIS SEAT. 10 by the template 'for every input the law returns true; each argument reads behind the call as it read before'; 0 by the template 'total and deterministic' (their statements: YtjfphfnfbgmlfaaTotals.lean).
  GIVEN WITH THE SEED: the statements are not yours to turn. If you find one false, say at which input.
  Laid BY PROGRAM, IN A SANDBOX (cutbox-rows.mjs): the forced cells as the released guide's own fill.sh prints them over the translation fb34146be27c1134… (all of the seat's roots in one cut). By AI agents, Wed Nov 11 2026. No macro, syntax, notation, axiom, sorry.
-/
import Derived.Test.YtjfphfnfbgmlfaaChecked
import GoSem.Claim
import GoSem.ClaimJoined
import GoSem.ClaimMapViews
import Derived.JoinedTies
import Derived.KernelRfl
namespace Go.Proofs.Ytjfphfnfbgmlfaa
/- THE CELL 'sum', in the pinned program and in every row, IS THE sha256 OF THE DUMP (.gsa) THAT YtjfphfnfbgmlfaaProg.lean LOADS. Nothing in Lean hashes anything: it is a label: what it is worth is what the hold of that sum in a sandbox is worth. -/
noncomputable def Try.pinned : Pinned := { name := "ytjfphfnfbgmlfaa", sum := "fb34146be27c11342a38b6744a779b0678e9f9a07c42daa4cf3fa014be83287f", checked := Try.checked }
namespace Rows
def none {H : Type} : Left H := { results := [], args := [] }

/-- 'alidadelaw6.InfoTurns': WHATEVER THE INPUT: true; the input reads as it did. -/
def infoTurnsSpec : ChangeSpec := { name := "infoTurns", fn := fun _ => fun
  | [d1, d2, d3] => { results := [.lit (.bool true)], args := [d1, d2, d3] }
  | _ => none }
def infoTurnsRow : OpenClaim := { program := "ytjfphfnfbgmlfaa", sum := "fb34146be27c11342a38b6744a779b0678e9f9a07c42daa4cf3fa014be83287f", func := "alidade/alidadelaw6.InfoTurns", spec := "infoTurns", inPlace := ["math/bits.Add64", "math/bits.Sub64"], unfollowed := true, recurses := true, named := ["math/bits.divideError", "math/bits.overflowError"], apart := false }
def InfoTurnsSaid : Prop := infoTurnsRow.holds Try.pinned (OpenSpec.ofChange infoTurnsSpec)

/-- ITS FALSE NEIGHBOUR: 'it returns false'. Refute it at one input. -/
def infoTurnsWrong : ChangeSpec := { name := "infoTurns", fn := fun _ => fun
  | [d1, d2, d3] => { results := [.lit (.bool false)], args := [d1, d2, d3] }
  | _ => none }
def InfoTurnsWrongFalsely : Prop := infoTurnsRow.holds Try.pinned (OpenSpec.ofChange infoTurnsWrong)

/-- 'alidadelaw6.InfoApart': WHATEVER THE INPUT: true; the input reads as it did. -/
def infoApartSpec : ChangeSpec := { name := "infoApart", fn := fun _ => fun
  | [d1, d2, d3] => { results := [.lit (.bool true)], args := [d1, d2, d3] }
  | _ => none }
def infoApartRow : OpenClaim := { program := "ytjfphfnfbgmlfaa", sum := "fb34146be27c11342a38b6744a779b0678e9f9a07c42daa4cf3fa014be83287f", func := "alidade/alidadelaw6.InfoApart", spec := "infoApart", inPlace := ["math/bits.Add64", "math/bits.Sub64"], unfollowed := true, recurses := true, named := ["math/bits.divideError", "math/bits.overflowError"], apart := false }
def InfoApartSaid : Prop := infoApartRow.holds Try.pinned (OpenSpec.ofChange infoApartSpec)

/-- ITS FALSE NEIGHBOUR: 'it returns false'. Refute it at one input. -/
def infoApartWrong : ChangeSpec := { name := "infoApart", fn := fun _ => fun
  | [d1, d2, d3] => { results := [.lit (.bool false)], args := [d1, d2, d3] }
  | _ => none }
def InfoApartWrongFalsely : Prop := infoApartRow.holds Try.pinned (OpenSpec.ofChange infoApartWrong)

/-- 'alidadelaw6.InfoShifts': WHATEVER THE INPUT: true; the input reads as it did. -/
def infoShiftsSpec : ChangeSpec := { name := "infoShifts", fn := fun _ => fun
  | [d1, d2, d3, d4] => { results := [.lit (.bool true)], args := [d1, d2, d3, d4] }
  | _ => none }
def infoShiftsRow : OpenClaim := { program := "ytjfphfnfbgmlfaa", sum := "fb34146be27c11342a38b6744a779b0678e9f9a07c42daa4cf3fa014be83287f", func := "alidade/alidadelaw6.InfoShifts", spec := "infoShifts", inPlace := ["math/bits.Add64", "math/bits.Sub64"], unfollowed := true, recurses := true, named := ["math/bits.divideError", "math/bits.overflowError"], apart := false }
def InfoShiftsSaid : Prop := infoShiftsRow.holds Try.pinned (OpenSpec.ofChange infoShiftsSpec)

/-- ITS FALSE NEIGHBOUR: 'it returns false'. Refute it at one input. -/
def infoShiftsWrong : ChangeSpec := { name := "infoShifts", fn := fun _ => fun
  | [d1, d2, d3, d4] => { results := [.lit (.bool false)], args := [d1, d2, d3, d4] }
  | _ => none }
def InfoShiftsWrongFalsely : Prop := infoShiftsRow.holds Try.pinned (OpenSpec.ofChange infoShiftsWrong)

/-- 'alidadelaw6.InfoMeets': WHATEVER THE INPUT: true; the input reads as it did. -/
def infoMeetsSpec : ChangeSpec := { name := "infoMeets", fn := fun _ => fun
  | [d1, d2, d3, d4, d5] => { results := [.lit (.bool true)], args := [d1, d2, d3, d4, d5] }
  | _ => none }
def infoMeetsRow : OpenClaim := { program := "ytjfphfnfbgmlfaa", sum := "fb34146be27c11342a38b6744a779b0678e9f9a07c42daa4cf3fa014be83287f", func := "alidade/alidadelaw6.InfoMeets", spec := "infoMeets", inPlace := ["math/bits.Add64", "math/bits.Sub64"], unfollowed := true, recurses := true, named := ["math/bits.divideError", "math/bits.overflowError"], apart := false }
def InfoMeetsSaid : Prop := infoMeetsRow.holds Try.pinned (OpenSpec.ofChange infoMeetsSpec)

/-- ITS FALSE NEIGHBOUR: 'it returns false'. Refute it at one input. -/
def infoMeetsWrong : ChangeSpec := { name := "infoMeets", fn := fun _ => fun
  | [d1, d2, d3, d4, d5] => { results := [.lit (.bool false)], args := [d1, d2, d3, d4, d5] }
  | _ => none }
def InfoMeetsWrongFalsely : Prop := infoMeetsRow.holds Try.pinned (OpenSpec.ofChange infoMeetsWrong)

/-- 'alidadelaw6.InfoSides': WHATEVER THE INPUT: true; the input reads as it did. -/
def infoSidesSpec : ChangeSpec := { name := "infoSides", fn := fun _ => fun
  | [d1, d2, d3, d4] => { results := [.lit (.bool true)], args := [d1, d2, d3, d4] }
  | _ => none }
def infoSidesRow : OpenClaim := { program := "ytjfphfnfbgmlfaa", sum := "fb34146be27c11342a38b6744a779b0678e9f9a07c42daa4cf3fa014be83287f", func := "alidade/alidadelaw6.InfoSides", spec := "infoSides", inPlace := ["math/bits.Add64", "math/bits.Sub64"], unfollowed := true, recurses := true, named := ["math/bits.divideError", "math/bits.overflowError"], apart := false }
def InfoSidesSaid : Prop := infoSidesRow.holds Try.pinned (OpenSpec.ofChange infoSidesSpec)

/-- ITS FALSE NEIGHBOUR: 'it returns false'. Refute it at one input. -/
def infoSidesWrong : ChangeSpec := { name := "infoSides", fn := fun _ => fun
  | [d1, d2, d3, d4] => { results := [.lit (.bool false)], args := [d1, d2, d3, d4] }
  | _ => none }
def InfoSidesWrongFalsely : Prop := infoSidesRow.holds Try.pinned (OpenSpec.ofChange infoSidesWrong)

/-- 'alidadelaw19.TrackHolds': WHATEVER THE INPUT: true; the input reads as it did. -/
def trackHoldsSpec : ChangeSpec := { name := "trackHolds", fn := fun _ => fun
  | [d1, d2, d3, d4, d5, d6, d7, d8, d9] => { results := [.lit (.bool true)], args := [d1, d2, d3, d4, d5, d6, d7, d8, d9] }
  | _ => none }
def trackHoldsRow : OpenClaim := { program := "ytjfphfnfbgmlfaa", sum := "fb34146be27c11342a38b6744a779b0678e9f9a07c42daa4cf3fa014be83287f", func := "alidade/alidadelaw19.TrackHolds", spec := "trackHolds", inPlace := ["math/bits.Add64", "math/bits.Sub64"], unfollowed := true, recurses := true, named := ["math/bits.divideError", "math/bits.overflowError"], apart := false }
def TrackHoldsSaid : Prop := trackHoldsRow.holds Try.pinned (OpenSpec.ofChange trackHoldsSpec)

/-- ITS FALSE NEIGHBOUR: 'it returns false'. Refute it at one input. -/
def trackHoldsWrong : ChangeSpec := { name := "trackHolds", fn := fun _ => fun
  | [d1, d2, d3, d4, d5, d6, d7, d8, d9] => { results := [.lit (.bool false)], args := [d1, d2, d3, d4, d5, d6, d7, d8, d9] }
  | _ => none }
def TrackHoldsWrongFalsely : Prop := trackHoldsRow.holds Try.pinned (OpenSpec.ofChange trackHoldsWrong)

/-- 'alidadelaw19.TrackLater': WHATEVER THE INPUT: true; the input reads as it did. -/
def trackLaterSpec : ChangeSpec := { name := "trackLater", fn := fun _ => fun
  | [d1, d2, d3, d4, d5, d6, d7, d8] => { results := [.lit (.bool true)], args := [d1, d2, d3, d4, d5, d6, d7, d8] }
  | _ => none }
def trackLaterRow : OpenClaim := { program := "ytjfphfnfbgmlfaa", sum := "fb34146be27c11342a38b6744a779b0678e9f9a07c42daa4cf3fa014be83287f", func := "alidade/alidadelaw19.TrackLater", spec := "trackLater", inPlace := ["math/bits.Add64", "math/bits.Sub64"], unfollowed := true, recurses := true, named := ["math/bits.divideError", "math/bits.overflowError"], apart := false }
def TrackLaterSaid : Prop := trackLaterRow.holds Try.pinned (OpenSpec.ofChange trackLaterSpec)

/-- ITS FALSE NEIGHBOUR: 'it returns false'. Refute it at one input. -/
def trackLaterWrong : ChangeSpec := { name := "trackLater", fn := fun _ => fun
  | [d1, d2, d3, d4, d5, d6, d7, d8] => { results := [.lit (.bool false)], args := [d1, d2, d3, d4, d5, d6, d7, d8] }
  | _ => none }
def TrackLaterWrongFalsely : Prop := trackLaterRow.holds Try.pinned (OpenSpec.ofChange trackLaterWrong)

/-- 'alidadelaw7.GoldenWithin': WHATEVER THE INPUT: true; the input reads as it did. -/
def goldenWithinSpec : ChangeSpec := { name := "goldenWithin", fn := fun _ => fun
  | [d1, d2] => { results := [.lit (.bool true)], args := [d1, d2] }
  | _ => none }
def goldenWithinRow : OpenClaim := { program := "ytjfphfnfbgmlfaa", sum := "fb34146be27c11342a38b6744a779b0678e9f9a07c42daa4cf3fa014be83287f", func := "alidade/alidadelaw7.GoldenWithin", spec := "goldenWithin", inPlace := ["math/bits.Add64", "math/bits.Sub64"], unfollowed := true, recurses := true, named := ["math/bits.divideError", "math/bits.overflowError"], apart := false }
def GoldenWithinSaid : Prop := goldenWithinRow.holds Try.pinned (OpenSpec.ofChange goldenWithinSpec)

/-- ITS FALSE NEIGHBOUR: 'it returns false'. Refute it at one input. -/
def goldenWithinWrong : ChangeSpec := { name := "goldenWithin", fn := fun _ => fun
  | [d1, d2] => { results := [.lit (.bool false)], args := [d1, d2] }
  | _ => none }
def GoldenWithinWrongFalsely : Prop := goldenWithinRow.holds Try.pinned (OpenSpec.ofChange goldenWithinWrong)

/-- 'alidadelaw7.GoldenHolds': WHATEVER THE INPUT: true; the input reads as it did. -/
def goldenHoldsSpec : ChangeSpec := { name := "goldenHolds", fn := fun _ => fun
  | [d1, d2, d3] => { results := [.lit (.bool true)], args := [d1, d2, d3] }
  | _ => none }
def goldenHoldsRow : OpenClaim := { program := "ytjfphfnfbgmlfaa", sum := "fb34146be27c11342a38b6744a779b0678e9f9a07c42daa4cf3fa014be83287f", func := "alidade/alidadelaw7.GoldenHolds", spec := "goldenHolds", inPlace := ["math/bits.Add64", "math/bits.Sub64"], unfollowed := true, recurses := true, named := ["math/bits.divideError", "math/bits.overflowError"], apart := false }
def GoldenHoldsSaid : Prop := goldenHoldsRow.holds Try.pinned (OpenSpec.ofChange goldenHoldsSpec)

/-- ITS FALSE NEIGHBOUR: 'it returns false'. Refute it at one input. -/
def goldenHoldsWrong : ChangeSpec := { name := "goldenHolds", fn := fun _ => fun
  | [d1, d2, d3] => { results := [.lit (.bool false)], args := [d1, d2, d3] }
  | _ => none }
def GoldenHoldsWrongFalsely : Prop := goldenHoldsRow.holds Try.pinned (OpenSpec.ofChange goldenHoldsWrong)

/-- 'alidadelaw7.GoldenCuts': WHATEVER THE INPUT: true; the input reads as it did. -/
def goldenCutsSpec : ChangeSpec := { name := "goldenCuts", fn := fun _ => fun
  | [d1, d2, d3] => { results := [.lit (.bool true)], args := [d1, d2, d3] }
  | _ => none }
def goldenCutsRow : OpenClaim := { program := "ytjfphfnfbgmlfaa", sum := "fb34146be27c11342a38b6744a779b0678e9f9a07c42daa4cf3fa014be83287f", func := "alidade/alidadelaw7.GoldenCuts", spec := "goldenCuts", inPlace := ["math/bits.Add64", "math/bits.Sub64"], unfollowed := true, recurses := true, named := ["math/bits.divideError", "math/bits.overflowError"], apart := false }
def GoldenCutsSaid : Prop := goldenCutsRow.holds Try.pinned (OpenSpec.ofChange goldenCutsSpec)

/-- ITS FALSE NEIGHBOUR: 'it returns false'. Refute it at one input. -/
def goldenCutsWrong : ChangeSpec := { name := "goldenCuts", fn := fun _ => fun
  | [d1, d2, d3] => { results := [.lit (.bool false)], args := [d1, d2, d3] }
  | _ => none }
def GoldenCutsWrongFalsely : Prop := goldenCutsRow.holds Try.pinned (OpenSpec.ofChange goldenCutsWrong)

/- THE SECOND FORM. 'bulk': how many values and letters a reading holds, each counted each time it is reached (what is shared counts as often as it is met; a slice's spare places count too). A statement '..UptoSaid' is the law's where the arguments, and the package variables that the reading takes, are together of bulk at most 1048576: NARROWER than '..Said'. Prove '..Said' where nothing that the law and all that it calls make is longer than what came in: it says more and counts as full. Else prove '..UptoSaid'. A law counts once. -/
mutual
def uptoBulk {H : Type} : DataW H → Nat
  | .lit (.string bytes) => bytes.length + 1
  | .lit _ => 1
  | .nil => 1
  | .ptr d => uptoBulk d + 1
  | .slice elems spare => uptoBulkAll elems + uptoBulkAll spare + 1
  | .agg parts => uptoBulkAll parts + 1
  | .iface _ d => uptoBulk d + 1
  | .map entries => uptoBulkEntries entries + 1
  | .held _ => 1
def uptoBulkAll {H : Type} : List (DataW H) → Nat
  | [] => 0
  | d :: r => uptoBulk d + uptoBulkAll r
def uptoBulkEntries {H : Type} : List (Lit × DataW H) → Nat
  | [] => 0
  | x :: r => uptoBulkEntry x + uptoBulkEntries r
def uptoBulkEntry {H : Type} : Lit × DataW H → Nat
  | (.string bytes, d) => bytes.length + uptoBulk d + 1
  | (_, d) => uptoBulk d + 1
 end
def uptoSmall : (H : Type) → List (DataW H) → Bool := fun _ ds => decide (uptoBulkAll ds ≤ 1048576)
def OpenSpec.upto (s : _root_.Go.ChangeSpec) : _root_.Go.OpenSpec := { _root_.Go.OpenSpec.ofChange s with cond := some uptoSmall }

/-- 'alidadelaw6.InfoTurns', WHERE WHAT IT READS IS OF BULK AT MOST 1048576: true; the input reads as it did. -/
def infoTurnsUptoRow : OpenClaim := { program := "ytjfphfnfbgmlfaa", sum := "fb34146be27c11342a38b6744a779b0678e9f9a07c42daa4cf3fa014be83287f", func := "alidade/alidadelaw6.InfoTurns", spec := "infoTurns", inPlace := ["math/bits.Add64", "math/bits.Sub64"], unfollowed := true, recurses := true, named := ["math/bits.divideError", "math/bits.overflowError"], apart := false, narrowed := true }
def InfoTurnsUptoSaid : Prop := infoTurnsUptoRow.holds Try.pinned (OpenSpec.upto infoTurnsSpec)

/-- 'alidadelaw6.InfoApart', WHERE WHAT IT READS IS OF BULK AT MOST 1048576: true; the input reads as it did. -/
def infoApartUptoRow : OpenClaim := { program := "ytjfphfnfbgmlfaa", sum := "fb34146be27c11342a38b6744a779b0678e9f9a07c42daa4cf3fa014be83287f", func := "alidade/alidadelaw6.InfoApart", spec := "infoApart", inPlace := ["math/bits.Add64", "math/bits.Sub64"], unfollowed := true, recurses := true, named := ["math/bits.divideError", "math/bits.overflowError"], apart := false, narrowed := true }
def InfoApartUptoSaid : Prop := infoApartUptoRow.holds Try.pinned (OpenSpec.upto infoApartSpec)

/-- 'alidadelaw6.InfoShifts', WHERE WHAT IT READS IS OF BULK AT MOST 1048576: true; the input reads as it did. -/
def infoShiftsUptoRow : OpenClaim := { program := "ytjfphfnfbgmlfaa", sum := "fb34146be27c11342a38b6744a779b0678e9f9a07c42daa4cf3fa014be83287f", func := "alidade/alidadelaw6.InfoShifts", spec := "infoShifts", inPlace := ["math/bits.Add64", "math/bits.Sub64"], unfollowed := true, recurses := true, named := ["math/bits.divideError", "math/bits.overflowError"], apart := false, narrowed := true }
def InfoShiftsUptoSaid : Prop := infoShiftsUptoRow.holds Try.pinned (OpenSpec.upto infoShiftsSpec)

/-- 'alidadelaw6.InfoMeets', WHERE WHAT IT READS IS OF BULK AT MOST 1048576: true; the input reads as it did. -/
def infoMeetsUptoRow : OpenClaim := { program := "ytjfphfnfbgmlfaa", sum := "fb34146be27c11342a38b6744a779b0678e9f9a07c42daa4cf3fa014be83287f", func := "alidade/alidadelaw6.InfoMeets", spec := "infoMeets", inPlace := ["math/bits.Add64", "math/bits.Sub64"], unfollowed := true, recurses := true, named := ["math/bits.divideError", "math/bits.overflowError"], apart := false, narrowed := true }
def InfoMeetsUptoSaid : Prop := infoMeetsUptoRow.holds Try.pinned (OpenSpec.upto infoMeetsSpec)

/-- 'alidadelaw6.InfoSides', WHERE WHAT IT READS IS OF BULK AT MOST 1048576: true; the input reads as it did. -/
def infoSidesUptoRow : OpenClaim := { program := "ytjfphfnfbgmlfaa", sum := "fb34146be27c11342a38b6744a779b0678e9f9a07c42daa4cf3fa014be83287f", func := "alidade/alidadelaw6.InfoSides", spec := "infoSides", inPlace := ["math/bits.Add64", "math/bits.Sub64"], unfollowed := true, recurses := true, named := ["math/bits.divideError", "math/bits.overflowError"], apart := false, narrowed := true }
def InfoSidesUptoSaid : Prop := infoSidesUptoRow.holds Try.pinned (OpenSpec.upto infoSidesSpec)

/-- 'alidadelaw19.TrackHolds', WHERE WHAT IT READS IS OF BULK AT MOST 1048576: true; the input reads as it did. -/
def trackHoldsUptoRow : OpenClaim := { program := "ytjfphfnfbgmlfaa", sum := "fb34146be27c11342a38b6744a779b0678e9f9a07c42daa4cf3fa014be83287f", func := "alidade/alidadelaw19.TrackHolds", spec := "trackHolds", inPlace := ["math/bits.Add64", "math/bits.Sub64"], unfollowed := true, recurses := true, named := ["math/bits.divideError", "math/bits.overflowError"], apart := false, narrowed := true }
def TrackHoldsUptoSaid : Prop := trackHoldsUptoRow.holds Try.pinned (OpenSpec.upto trackHoldsSpec)

/-- 'alidadelaw19.TrackLater', WHERE WHAT IT READS IS OF BULK AT MOST 1048576: true; the input reads as it did. -/
def trackLaterUptoRow : OpenClaim := { program := "ytjfphfnfbgmlfaa", sum := "fb34146be27c11342a38b6744a779b0678e9f9a07c42daa4cf3fa014be83287f", func := "alidade/alidadelaw19.TrackLater", spec := "trackLater", inPlace := ["math/bits.Add64", "math/bits.Sub64"], unfollowed := true, recurses := true, named := ["math/bits.divideError", "math/bits.overflowError"], apart := false, narrowed := true }
def TrackLaterUptoSaid : Prop := trackLaterUptoRow.holds Try.pinned (OpenSpec.upto trackLaterSpec)

/-- 'alidadelaw7.GoldenWithin', WHERE WHAT IT READS IS OF BULK AT MOST 1048576: true; the input reads as it did. -/
def goldenWithinUptoRow : OpenClaim := { program := "ytjfphfnfbgmlfaa", sum := "fb34146be27c11342a38b6744a779b0678e9f9a07c42daa4cf3fa014be83287f", func := "alidade/alidadelaw7.GoldenWithin", spec := "goldenWithin", inPlace := ["math/bits.Add64", "math/bits.Sub64"], unfollowed := true, recurses := true, named := ["math/bits.divideError", "math/bits.overflowError"], apart := false, narrowed := true }
def GoldenWithinUptoSaid : Prop := goldenWithinUptoRow.holds Try.pinned (OpenSpec.upto goldenWithinSpec)

/-- 'alidadelaw7.GoldenHolds', WHERE WHAT IT READS IS OF BULK AT MOST 1048576: true; the input reads as it did. -/
def goldenHoldsUptoRow : OpenClaim := { program := "ytjfphfnfbgmlfaa", sum := "fb34146be27c11342a38b6744a779b0678e9f9a07c42daa4cf3fa014be83287f", func := "alidade/alidadelaw7.GoldenHolds", spec := "goldenHolds", inPlace := ["math/bits.Add64", "math/bits.Sub64"], unfollowed := true, recurses := true, named := ["math/bits.divideError", "math/bits.overflowError"], apart := false, narrowed := true }
def GoldenHoldsUptoSaid : Prop := goldenHoldsUptoRow.holds Try.pinned (OpenSpec.upto goldenHoldsSpec)

/-- 'alidadelaw7.GoldenCuts', WHERE WHAT IT READS IS OF BULK AT MOST 1048576: true; the input reads as it did. -/
def goldenCutsUptoRow : OpenClaim := { program := "ytjfphfnfbgmlfaa", sum := "fb34146be27c11342a38b6744a779b0678e9f9a07c42daa4cf3fa014be83287f", func := "alidade/alidadelaw7.GoldenCuts", spec := "goldenCuts", inPlace := ["math/bits.Add64", "math/bits.Sub64"], unfollowed := true, recurses := true, named := ["math/bits.divideError", "math/bits.overflowError"], apart := false, narrowed := true }
def GoldenCutsUptoSaid : Prop := goldenCutsUptoRow.holds Try.pinned (OpenSpec.upto goldenCutsSpec)

end Rows
end Go.Proofs.Ytjfphfnfbgmlfaa
