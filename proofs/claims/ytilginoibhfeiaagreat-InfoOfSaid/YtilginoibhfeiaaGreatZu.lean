/- The walks of the document's WideDown, WideUp. -/
import Derived.Test.YtilginoibhfeiaaGreatRJ
import Derived.Test.YtilginoibhfeiaaGreatYl
import Derived.Test.YtilginoibhfeiaaGreatRs
namespace Go.Proofs.YtilginoibhfeiaaGreat
set_option linter.unusedSimpArgs false
open Go.RowKit
theorem cmpB_v {x y:WI} {n:Int} {b:Bool} (h:Hid (x.cmp y=(n,b))) {u v:Value} {w:World} (hx:BigIs w u x) (hy:BigIs w v y) :
  Calls Tryz.prog 103 #[u,v] w fun e w'=>e = .returned (.tuple #[.int .i64 n,.bool b])∧Below w.heap.size w w':=by
 have:=cmpB_r u v x y w hx hy
 rwa [h.out] at this
end Go.Proofs.YtilginoibhfeiaaGreat
