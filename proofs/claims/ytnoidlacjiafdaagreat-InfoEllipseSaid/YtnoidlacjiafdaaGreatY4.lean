/- The document's Mix. -/
import Derived.Test.YtnoidlacjiafdaaGreatY2
import Derived.Test.YtnoidlacjiafdaaGreatJa
namespace Go.Proofs.YtnoidlacjiafdaaGreat
set_option linter.unusedSimpArgs false
set_option linter.unusedVariables false
set_option linter.unusedSimpArgs false
open Go.RowKit

end Go.Proofs.YtnoidlacjiafdaaGreat
