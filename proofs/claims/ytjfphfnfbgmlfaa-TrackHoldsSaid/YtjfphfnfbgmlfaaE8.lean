/- The walks of GrowHolds, GrowBalls. -/
import Derived.Test.YtjfphfnfbgmlfaaE7
namespace Go.Proofs.Ytjfphfnfbgmlfaa
open Go.RowKit

theorem ellin_v (x y a b d p q : Int) (t : Bool) (h : El.has ⟨x, y, a, b, d⟩ p q = t) (w : World) :
    Calls Try.prog 18 #[elC x y a b d, ptV p q] w fun e w' => e = .returned (.bool t) ∧ Below w.heap.size w w' := by
  subst h; exact ellin_c x y a b d p q w


end Go.Proofs.Ytjfphfnfbgmlfaa
