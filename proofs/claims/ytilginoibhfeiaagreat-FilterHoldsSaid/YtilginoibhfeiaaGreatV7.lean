/- awake of the laws of strip; the walk of StripLess. -/
import Derived.Test.YtilginoibhfeiaaGreatVB
import Derived.Lib.QuietBelow
import Derived.BigQuiet
namespace Go.Proofs.YtilginoibhfeiaaGreat
open Go.RowKit

end Go.Proofs.YtilginoibhfeiaaGreat
