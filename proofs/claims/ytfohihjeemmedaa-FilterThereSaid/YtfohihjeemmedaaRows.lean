/-
  No cell of these rows narrows 'for every input' (looked for: loops, veiled, ifaces, maps, wideKeys, modest, calm, conditions, laid).
  DERIVED. THE GIVEN ROWS OF THIS SEAT. 7 by the template 'for every input the law returns true; each argument reads behind the call as it read before'; 0 by the template 'total and deterministic' (their statements: YtfohihjeemmedaaTotals.lean).
  GIVEN WITH THE SEED: the statements are not yours to turn. If you find one false, say at which input.
  Laid BY PROGRAM, IN A SANDBOX (cutbox-rows.mjs): the forced cells as the released guide's own fill.sh prints them over the translation 2234917a06fb4587… (all of the seat's roots in one cut). By AI agents, Wed Nov 11 2026. No macro, syntax, notation, axiom, sorry.
-/
import Derived.Test.YtfohihjeemmedaaChecked
import GoSem.Claim
import GoSem.ClaimJoined
import GoSem.ClaimMapViews
import Derived.JoinedTies
import Derived.KernelRfl
namespace Go.Proofs.Ytfohihjeemmedaa
/- THE CELL 'sum', in the pinned program and in every row, IS THE sha256 OF THE DUMP (.gsa) THAT YtfohihjeemmedaaProg.lean LOADS. Nothing in Lean hashes anything: it is a label: what it is worth is what the hold of that sum in a sandbox is worth. -/
noncomputable def Try.pinned : Pinned := { name := "ytfohihjeemmedaa", sum := "2234917a06fb4587d30e4a8025af36aa076c5ddfcce3b2f775c068208d90fa8c", checked := Try.checked }
namespace Rows
def none {H : Type} : Left H := { results := [], args := [] }

/-- 'alidadelaw8.StripLess': WHATEVER THE INPUT: true; the input reads as it did. -/
def stripLessSpec : ChangeSpec := { name := "stripLess", fn := fun _ => fun
  | [d1, d2, d3, d4] => { results := [.lit (.bool true)], args := [d1, d2, d3, d4] }
  | _ => none }
def stripLessRow : OpenClaim := { program := "ytfohihjeemmedaa", sum := "2234917a06fb4587d30e4a8025af36aa076c5ddfcce3b2f775c068208d90fa8c", func := "alidade/alidadelaw8.StripLess", spec := "stripLess", inPlace := ["math/bits.Add64", "math/bits.Sub64"], unfollowed := true, recurses := true, named := ["math/bits.divideError", "math/bits.overflowError"], apart := false }
def StripLessSaid : Prop := stripLessRow.holds Try.pinned (OpenSpec.ofChange stripLessSpec)

/-- ITS FALSE NEIGHBOUR: 'it returns false'. Refute it at one input. -/
def stripLessWrong : ChangeSpec := { name := "stripLess", fn := fun _ => fun
  | [d1, d2, d3, d4] => { results := [.lit (.bool false)], args := [d1, d2, d3, d4] }
  | _ => none }
def StripLessWrongFalsely : Prop := stripLessRow.holds Try.pinned (OpenSpec.ofChange stripLessWrong)

/-- 'alidadelaw8.StripAgain': WHATEVER THE INPUT: true; the input reads as it did. -/
def stripAgainSpec : ChangeSpec := { name := "stripAgain", fn := fun _ => fun
  | [d1, d2, d3, d4, d5, d6, d7] => { results := [.lit (.bool true)], args := [d1, d2, d3, d4, d5, d6, d7] }
  | _ => none }
def stripAgainRow : OpenClaim := { program := "ytfohihjeemmedaa", sum := "2234917a06fb4587d30e4a8025af36aa076c5ddfcce3b2f775c068208d90fa8c", func := "alidade/alidadelaw8.StripAgain", spec := "stripAgain", inPlace := ["math/bits.Add64", "math/bits.Sub64"], unfollowed := true, recurses := true, named := ["math/bits.divideError", "math/bits.overflowError"], apart := false }
def StripAgainSaid : Prop := stripAgainRow.holds Try.pinned (OpenSpec.ofChange stripAgainSpec)

/-- ITS FALSE NEIGHBOUR: 'it returns false'. Refute it at one input. -/
def stripAgainWrong : ChangeSpec := { name := "stripAgain", fn := fun _ => fun
  | [d1, d2, d3, d4, d5, d6, d7] => { results := [.lit (.bool false)], args := [d1, d2, d3, d4, d5, d6, d7] }
  | _ => none }
def StripAgainWrongFalsely : Prop := stripAgainRow.holds Try.pinned (OpenSpec.ofChange stripAgainWrong)

/-- 'alidadelaw8.StripFar': WHATEVER THE INPUT: true; the input reads as it did. -/
def stripFarSpec : ChangeSpec := { name := "stripFar", fn := fun _ => fun
  | [d1, d2, d3] => { results := [.lit (.bool true)], args := [d1, d2, d3] }
  | _ => none }
def stripFarRow : OpenClaim := { program := "ytfohihjeemmedaa", sum := "2234917a06fb4587d30e4a8025af36aa076c5ddfcce3b2f775c068208d90fa8c", func := "alidade/alidadelaw8.StripFar", spec := "stripFar", inPlace := ["math/bits.Add64", "math/bits.Sub64"], unfollowed := true, recurses := true, named := ["math/bits.divideError", "math/bits.overflowError"], apart := false }
def StripFarSaid : Prop := stripFarRow.holds Try.pinned (OpenSpec.ofChange stripFarSpec)

/-- ITS FALSE NEIGHBOUR: 'it returns false'. Refute it at one input. -/
def stripFarWrong : ChangeSpec := { name := "stripFar", fn := fun _ => fun
  | [d1, d2, d3] => { results := [.lit (.bool false)], args := [d1, d2, d3] }
  | _ => none }
def StripFarWrongFalsely : Prop := stripFarRow.holds Try.pinned (OpenSpec.ofChange stripFarWrong)

/-- 'alidadelaw18.FilterThere': WHATEVER THE INPUT: true; the input reads as it did. -/
def filterThereSpec : ChangeSpec := { name := "filterThere", fn := fun _ => fun
  | [d1, d2, d3, d4] => { results := [.lit (.bool true)], args := [d1, d2, d3, d4] }
  | _ => none }
def filterThereRow : OpenClaim := { program := "ytfohihjeemmedaa", sum := "2234917a06fb4587d30e4a8025af36aa076c5ddfcce3b2f775c068208d90fa8c", func := "alidade/alidadelaw18.FilterThere", spec := "filterThere", inPlace := ["math/bits.Add64", "math/bits.Sub64"], unfollowed := true, recurses := true, named := ["math/bits.divideError", "math/bits.overflowError"], apart := false }
def FilterThereSaid : Prop := filterThereRow.holds Try.pinned (OpenSpec.ofChange filterThereSpec)

/-- ITS FALSE NEIGHBOUR: 'it returns false'. Refute it at one input. -/
def filterThereWrong : ChangeSpec := { name := "filterThere", fn := fun _ => fun
  | [d1, d2, d3, d4] => { results := [.lit (.bool false)], args := [d1, d2, d3, d4] }
  | _ => none }
def FilterThereWrongFalsely : Prop := filterThereRow.holds Try.pinned (OpenSpec.ofChange filterThereWrong)

/-- 'alidadelaw18.FilterNil': WHATEVER THE INPUT: true; the input reads as it did. -/
def filterNilSpec : ChangeSpec := { name := "filterNil", fn := fun _ => fun
  | [d] => { results := [.lit (.bool true)], args := [d] }
  | _ => none }
def filterNilRow : OpenClaim := { program := "ytfohihjeemmedaa", sum := "2234917a06fb4587d30e4a8025af36aa076c5ddfcce3b2f775c068208d90fa8c", func := "alidade/alidadelaw18.FilterNil", spec := "filterNil", inPlace := ["math/bits.Add64", "math/bits.Sub64"], unfollowed := true, recurses := true, named := ["math/bits.divideError", "math/bits.overflowError"], apart := false }
def FilterNilSaid : Prop := filterNilRow.holds Try.pinned (OpenSpec.ofChange filterNilSpec)

/-- ITS FALSE NEIGHBOUR: 'it returns false'. Refute it at one input. -/
def filterNilWrong : ChangeSpec := { name := "filterNil", fn := fun _ => fun
  | [d] => { results := [.lit (.bool false)], args := [d] }
  | _ => none }
def FilterNilWrongFalsely : Prop := filterNilRow.holds Try.pinned (OpenSpec.ofChange filterNilWrong)

/-- 'alidadelaw18.FilterLess': WHATEVER THE INPUT: true; the input reads as it did. -/
def filterLessSpec : ChangeSpec := { name := "filterLess", fn := fun _ => fun
  | [d1, d2] => { results := [.lit (.bool true)], args := [d1, d2] }
  | _ => none }
def filterLessRow : OpenClaim := { program := "ytfohihjeemmedaa", sum := "2234917a06fb4587d30e4a8025af36aa076c5ddfcce3b2f775c068208d90fa8c", func := "alidade/alidadelaw18.FilterLess", spec := "filterLess", inPlace := ["math/bits.Add64", "math/bits.Sub64"], unfollowed := true, recurses := true, named := ["math/bits.divideError", "math/bits.overflowError"], apart := false }
def FilterLessSaid : Prop := filterLessRow.holds Try.pinned (OpenSpec.ofChange filterLessSpec)

/-- ITS FALSE NEIGHBOUR: 'it returns false'. Refute it at one input. -/
def filterLessWrong : ChangeSpec := { name := "filterLess", fn := fun _ => fun
  | [d1, d2] => { results := [.lit (.bool false)], args := [d1, d2] }
  | _ => none }
def FilterLessWrongFalsely : Prop := filterLessRow.holds Try.pinned (OpenSpec.ofChange filterLessWrong)

/-- 'alidadelaw18.FilterFound': WHATEVER THE INPUT: true; the input reads as it did. -/
def filterFoundSpec : ChangeSpec := { name := "filterFound", fn := fun _ => fun
  | [d1, d2, d3, d4] => { results := [.lit (.bool true)], args := [d1, d2, d3, d4] }
  | _ => none }
def filterFoundRow : OpenClaim := { program := "ytfohihjeemmedaa", sum := "2234917a06fb4587d30e4a8025af36aa076c5ddfcce3b2f775c068208d90fa8c", func := "alidade/alidadelaw18.FilterFound", spec := "filterFound", inPlace := ["math/bits.Add64", "math/bits.Sub64"], unfollowed := true, recurses := true, named := ["math/bits.divideError", "math/bits.overflowError"], apart := false }
def FilterFoundSaid : Prop := filterFoundRow.holds Try.pinned (OpenSpec.ofChange filterFoundSpec)

/-- ITS FALSE NEIGHBOUR: 'it returns false'. Refute it at one input. -/
def filterFoundWrong : ChangeSpec := { name := "filterFound", fn := fun _ => fun
  | [d1, d2, d3, d4] => { results := [.lit (.bool false)], args := [d1, d2, d3, d4] }
  | _ => none }
def FilterFoundWrongFalsely : Prop := filterFoundRow.holds Try.pinned (OpenSpec.ofChange filterFoundWrong)

/- THE SECOND FORM. 'bulk': how many values and letters a reading holds, each counted each time it is reached (what is shared counts as often as it is met; a slice's spare places count too). A statement '..UptoSaid' is the law's where the arguments, and the package variables that the reading takes, are together of bulk at most 1048576: NARROWER than '..Said'. Prove '..Said' where nothing that the law and all that it calls make is longer than what came in: it says more and counts as full. Else prove '..UptoSaid'. A law counts once. -/
mutual
def uptoBulk {H : Type} : DataW H → Nat
  | .lit (.string bytes) => bytes.length + 1
  | .lit _ => 1
  | .nil => 1
  | .ptr d => uptoBulk d + 1
  | .slice elems spare => uptoBulkAll elems + uptoBulkAll spare + 1
  | .agg parts => uptoBulkAll parts + 1
  | .iface _ d => uptoBulk d + 1
  | .map entries => uptoBulkEntries entries + 1
  | .held _ => 1
def uptoBulkAll {H : Type} : List (DataW H) → Nat
  | [] => 0
  | d :: r => uptoBulk d + uptoBulkAll r
def uptoBulkEntries {H : Type} : List (Lit × DataW H) → Nat
  | [] => 0
  | x :: r => uptoBulkEntry x + uptoBulkEntries r
def uptoBulkEntry {H : Type} : Lit × DataW H → Nat
  | (.string bytes, d) => bytes.length + uptoBulk d + 1
  | (_, d) => uptoBulk d + 1
 end
def uptoSmall : (H : Type) → List (DataW H) → Bool := fun _ ds => decide (uptoBulkAll ds ≤ 1048576)
def OpenSpec.upto (s : _root_.Go.ChangeSpec) : _root_.Go.OpenSpec := { _root_.Go.OpenSpec.ofChange s with cond := some uptoSmall }

/-- 'alidadelaw8.StripLess', WHERE WHAT IT READS IS OF BULK AT MOST 1048576: true; the input reads as it did. -/
def stripLessUptoRow : OpenClaim := { program := "ytfohihjeemmedaa", sum := "2234917a06fb4587d30e4a8025af36aa076c5ddfcce3b2f775c068208d90fa8c", func := "alidade/alidadelaw8.StripLess", spec := "stripLess", inPlace := ["math/bits.Add64", "math/bits.Sub64"], unfollowed := true, recurses := true, named := ["math/bits.divideError", "math/bits.overflowError"], apart := false, narrowed := true }
def StripLessUptoSaid : Prop := stripLessUptoRow.holds Try.pinned (OpenSpec.upto stripLessSpec)

/-- 'alidadelaw8.StripAgain', WHERE WHAT IT READS IS OF BULK AT MOST 1048576: true; the input reads as it did. -/
def stripAgainUptoRow : OpenClaim := { program := "ytfohihjeemmedaa", sum := "2234917a06fb4587d30e4a8025af36aa076c5ddfcce3b2f775c068208d90fa8c", func := "alidade/alidadelaw8.StripAgain", spec := "stripAgain", inPlace := ["math/bits.Add64", "math/bits.Sub64"], unfollowed := true, recurses := true, named := ["math/bits.divideError", "math/bits.overflowError"], apart := false, narrowed := true }
def StripAgainUptoSaid : Prop := stripAgainUptoRow.holds Try.pinned (OpenSpec.upto stripAgainSpec)

/-- 'alidadelaw8.StripFar', WHERE WHAT IT READS IS OF BULK AT MOST 1048576: true; the input reads as it did. -/
def stripFarUptoRow : OpenClaim := { program := "ytfohihjeemmedaa", sum := "2234917a06fb4587d30e4a8025af36aa076c5ddfcce3b2f775c068208d90fa8c", func := "alidade/alidadelaw8.StripFar", spec := "stripFar", inPlace := ["math/bits.Add64", "math/bits.Sub64"], unfollowed := true, recurses := true, named := ["math/bits.divideError", "math/bits.overflowError"], apart := false, narrowed := true }
def StripFarUptoSaid : Prop := stripFarUptoRow.holds Try.pinned (OpenSpec.upto stripFarSpec)

/-- 'alidadelaw18.FilterThere', WHERE WHAT IT READS IS OF BULK AT MOST 1048576: true; the input reads as it did. -/
def filterThereUptoRow : OpenClaim := { program := "ytfohihjeemmedaa", sum := "2234917a06fb4587d30e4a8025af36aa076c5ddfcce3b2f775c068208d90fa8c", func := "alidade/alidadelaw18.FilterThere", spec := "filterThere", inPlace := ["math/bits.Add64", "math/bits.Sub64"], unfollowed := true, recurses := true, named := ["math/bits.divideError", "math/bits.overflowError"], apart := false, narrowed := true }
def FilterThereUptoSaid : Prop := filterThereUptoRow.holds Try.pinned (OpenSpec.upto filterThereSpec)

/-- 'alidadelaw18.FilterNil', WHERE WHAT IT READS IS OF BULK AT MOST 1048576: true; the input reads as it did. -/
def filterNilUptoRow : OpenClaim := { program := "ytfohihjeemmedaa", sum := "2234917a06fb4587d30e4a8025af36aa076c5ddfcce3b2f775c068208d90fa8c", func := "alidade/alidadelaw18.FilterNil", spec := "filterNil", inPlace := ["math/bits.Add64", "math/bits.Sub64"], unfollowed := true, recurses := true, named := ["math/bits.divideError", "math/bits.overflowError"], apart := false, narrowed := true }
def FilterNilUptoSaid : Prop := filterNilUptoRow.holds Try.pinned (OpenSpec.upto filterNilSpec)

/-- 'alidadelaw18.FilterLess', WHERE WHAT IT READS IS OF BULK AT MOST 1048576: true; the input reads as it did. -/
def filterLessUptoRow : OpenClaim := { program := "ytfohihjeemmedaa", sum := "2234917a06fb4587d30e4a8025af36aa076c5ddfcce3b2f775c068208d90fa8c", func := "alidade/alidadelaw18.FilterLess", spec := "filterLess", inPlace := ["math/bits.Add64", "math/bits.Sub64"], unfollowed := true, recurses := true, named := ["math/bits.divideError", "math/bits.overflowError"], apart := false, narrowed := true }
def FilterLessUptoSaid : Prop := filterLessUptoRow.holds Try.pinned (OpenSpec.upto filterLessSpec)

/-- 'alidadelaw18.FilterFound', WHERE WHAT IT READS IS OF BULK AT MOST 1048576: true; the input reads as it did. -/
def filterFoundUptoRow : OpenClaim := { program := "ytfohihjeemmedaa", sum := "2234917a06fb4587d30e4a8025af36aa076c5ddfcce3b2f775c068208d90fa8c", func := "alidade/alidadelaw18.FilterFound", spec := "filterFound", inPlace := ["math/bits.Add64", "math/bits.Sub64"], unfollowed := true, recurses := true, named := ["math/bits.divideError", "math/bits.overflowError"], apart := false, narrowed := true }
def FilterFoundUptoSaid : Prop := filterFoundUptoRow.holds Try.pinned (OpenSpec.upto filterFoundSpec)

end Rows
end Go.Proofs.Ytfohihjeemmedaa
