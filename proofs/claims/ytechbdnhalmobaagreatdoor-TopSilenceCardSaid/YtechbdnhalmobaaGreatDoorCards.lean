/-
  DERIVED. GIVEN WITH THE SEED: THE CARDS: each row of YtechbdnhalmobaaGreatDoorRows.lean that lists a variable, with what it lists TIED to the program's text (the seventh form; the later family's looks); each row that meets fmt, with fmt's text TOLD by the authors' own Lean function (tested against real Go, not proved from fmt's source: count such statements apart). THE CARD IS WHAT COUNTS. Prove the row's statement (the work); the ties are given (YtechbdnhalmobaaGreatDoorTie.lean); close each card by the builder's one call (the guide's Derived/Test/ToyasCard.lean, 'card_holds'). Laid BY PROGRAM, IN A SANDBOX (cutbox-door.mjs). By AI agents, Wed Nov 11 2026. No macro, syntax, notation, axiom, sorry.
-/
import Derived.Test.YtechbdnhalmobaaGreatDoorRows
import GoSem.ClaimSeven
namespace Go.Proofs.YtechbdnhalmobaaGreatDoor
namespace Rows

/-- THE TIED CARD OF 'alidadetop.TopGrows'. -/
def topGrowsCard : Claim7 := { stood := { row := topGrowsRow, standIns := [], harness := (true, "8ffef3cac116936802f9a850093a5d858ddf877d981aa33913dec557d2fd713d"), looks := true }, kinds := [], alts := [], laidByText := true, laidKinds := [.data, .data, .data, .data, .sentinel, .sentinel, .pinned], laidTests := true, laidLooks := .later }
def TopGrowsCardSaid : Prop := Claim7.holds Tryz.pinned (.plain (OpenSpec.ofChange topGrowsSpec)) topGrowsCard

/-- THE TIED CARD OF 'alidadetop.TopRumour'. -/
def topRumourCard : Claim7 := { stood := { row := topRumourRow, standIns := [], harness := (true, "8ffef3cac116936802f9a850093a5d858ddf877d981aa33913dec557d2fd713d"), looks := true }, kinds := [], alts := [], laidByText := true, laidKinds := [.data, .data, .data, .data, .sentinel, .sentinel, .pinned], laidTests := true, laidLooks := .later }
def TopRumourCardSaid : Prop := Claim7.holds Tryz.pinned (.plain (OpenSpec.ofChange topRumourSpec)) topRumourCard

/-- THE TIED CARD OF 'alidadetop.TopSilence'. -/
def topSilenceCard : Claim7 := { stood := { row := topSilenceRow, standIns := [], harness := (true, "8ffef3cac116936802f9a850093a5d858ddf877d981aa33913dec557d2fd713d"), looks := true }, kinds := [], alts := [], laidByText := true, laidKinds := [.data, .data, .data, .data, .sentinel, .sentinel, .pinned], laidTests := true, laidLooks := .later }
def TopSilenceCardSaid : Prop := Claim7.holds Tryz.pinned (.plain (OpenSpec.ofChange topSilenceSpec)) topSilenceCard

/-- THE SECOND FORM's CARD OF 'alidadetop.TopGrows'. -/
def topGrowsUptoCard : Claim7 := { stood := { row := topGrowsUptoRow, standIns := [], harness := (true, "8ffef3cac116936802f9a850093a5d858ddf877d981aa33913dec557d2fd713d"), looks := true }, kinds := [], alts := [], laidByText := true, laidKinds := [.data, .data, .data, .data, .sentinel, .sentinel, .pinned], laidTests := true, laidLooks := .later }
def TopGrowsUptoCardSaid : Prop := Claim7.holds Tryz.pinned (.plain (OpenSpec.upto topGrowsSpec)) topGrowsUptoCard

/-- THE SECOND FORM's CARD OF 'alidadetop.TopRumour'. -/
def topRumourUptoCard : Claim7 := { stood := { row := topRumourUptoRow, standIns := [], harness := (true, "8ffef3cac116936802f9a850093a5d858ddf877d981aa33913dec557d2fd713d"), looks := true }, kinds := [], alts := [], laidByText := true, laidKinds := [.data, .data, .data, .data, .sentinel, .sentinel, .pinned], laidTests := true, laidLooks := .later }
def TopRumourUptoCardSaid : Prop := Claim7.holds Tryz.pinned (.plain (OpenSpec.upto topRumourSpec)) topRumourUptoCard

/-- THE SECOND FORM's CARD OF 'alidadetop.TopSilence'. -/
def topSilenceUptoCard : Claim7 := { stood := { row := topSilenceUptoRow, standIns := [], harness := (true, "8ffef3cac116936802f9a850093a5d858ddf877d981aa33913dec557d2fd713d"), looks := true }, kinds := [], alts := [], laidByText := true, laidKinds := [.data, .data, .data, .data, .sentinel, .sentinel, .pinned], laidTests := true, laidLooks := .later }
def TopSilenceUptoCardSaid : Prop := Claim7.holds Tryz.pinned (.plain (OpenSpec.upto topSilenceSpec)) topSilenceUptoCard
end Rows
end Go.Proofs.YtechbdnhalmobaaGreatDoor
