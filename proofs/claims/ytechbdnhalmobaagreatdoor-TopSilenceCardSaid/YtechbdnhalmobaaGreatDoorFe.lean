/- Walks. -/
import Derived.Test.YtechbdnhalmobaaGreatDoorRows
import Derived.Test.YtechbdnhalmobaaGreatDoorFr
import Derived.Test.YtechbdnhalmobaaGreatDoorBE
namespace Go.Proofs.YtechbdnhalmobaaGreatDoor
set_option linter.unusedSimpArgs false
set_option linter.unusedVariables false
open Go.ChangeShapes Go.WideShapes Go.ChangeAt Go.RowKit
set_option maxRecDepth 100000
theorem own:ownKnob Tryz.prog.godebug=none:=by kernel_rfl
theorem laidOut:laidOutB Tryz.prog=true:=by kernel_rfl
theorem IG {W:World} {base:Nat} {v:Value} (h:Value.okWide Tryz.prog W .any base 3 v):∃ n,v = .int .i64 n∧I64 n:=by
 obtain⟨n,rfl,hn⟩:=mn Tryz.underlying3 h;exact⟨n,rfl,il hn⟩
end Go.Proofs.YtechbdnhalmobaaGreatDoor
