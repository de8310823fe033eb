/- The walks of package ellip: In, radius, Ball, Trace, Radius. -/
import Derived.Test.YtdipecepgfaokaaE1
import Derived.Test.YtdipecepgfaokaaBY
namespace Go.Proofs.Ytdipecepgfaokaa
set_option linter.unusedSimpArgs false
set_option linter.unusedVariables false
open Go.RowKit

theorem ellmay_e (e : El) (m : Bool) (h : e.may = m) (w : World) :
    Calls Try.prog 34 #[elV e] w fun r w' => r = .returned (.bool m) ∧ Below w.heap.size w w' := by
  subst h; exact ellmay_c e.x e.y e.a e.b e.d w
end Go.Proofs.Ytdipecepgfaokaa
