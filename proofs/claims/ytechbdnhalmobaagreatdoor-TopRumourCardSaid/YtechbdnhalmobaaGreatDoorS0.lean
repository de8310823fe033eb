/- Worlds that differ in one block: over EX. -/
import Derived.Test.YtechbdnhalmobaaGreatDoorIA
namespace Go.Proofs.YtechbdnhalmobaaGreatDoor
set_option linter.unusedSimpArgs false
set_option linter.unusedVariables false
end Go.Proofs.YtechbdnhalmobaaGreatDoor
