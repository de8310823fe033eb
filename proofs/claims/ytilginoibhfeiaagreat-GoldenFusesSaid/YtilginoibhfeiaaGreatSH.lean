/- Shifts of wide numbers: the plain law. The walk of package wide's Shift. -/
import Derived.Test.YtilginoibhfeiaaGreatBX
import Derived.Test.YtilginoibhfeiaaGreatBY
namespace Go.Proofs.YtilginoibhfeiaaGreat
open Go.RowKit

def WI.shl (x:WI) (k:Int):WI:=match x.v with
 | none=>WI.over
 | some z=>if z=0 then x else if 0≤k then (if 1023<k then WI.over else WI.of (z*((2^k.toNat:Nat):Int))) else WI.of (z.fdiv ((2^(-k).toNat:Nat):Int))
open Go.RowKit

end Go.Proofs.YtilginoibhfeiaaGreat
