/- The walks of package root: fit, Floor, Ceil, Near. -/
import Derived.Test.YtgddblbpmfaahaaT2
namespace Go.Proofs.Ytgddblbpmfaahaa
open Go.RowKit

end Go.Proofs.Ytgddblbpmfaahaa
