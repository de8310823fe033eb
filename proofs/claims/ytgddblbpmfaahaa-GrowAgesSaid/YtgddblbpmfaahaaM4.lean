/- The walk of package mat's Quad. -/
import Derived.Test.YtgddblbpmfaahaaM3
import Derived.Deep.Cut
import Derived.Test.YtgddblbpmfaahaaWk
namespace Go.Proofs.Ytgddblbpmfaahaa
open Go.RowKit

theorem quad_eq (a b d x y : Int) (ha : I64 a) (hb : I64 b) (hd : I64 d) (hx : I64 x) (hy : I64 y) :
    (((WI.of a).mul (WI.of (x * x))).add ((WI.of d).mul (WI.of (y * y)))).add (((WI.of b).mul (WI.of (x * y))).add ((WI.of b).mul (WI.of (x * y)))) = WI.of (a * (x * x) + d * (y * y) + (b * (x * y) + b * (x * y))) := by
  have A := Sm.of64 ha.1 ha.2
  have B := Sm.of64 hb.1 hb.2
  have D := Sm.of64 hd.1 hd.2
  have X := Sm.of64 hx.1 hx.2
  have Y := Sm.of64 hy.1 hy.2
  rw [WI.of_mul (A.lim (by decide)) ((X.mul X).lim (by decide)), WI.of_mul (D.lim (by decide)) ((Y.mul Y).lim (by decide)), WI.of_mul (B.lim (by decide)) ((X.mul Y).lim (by decide)),
    WI.of_add ((A.mul (X.mul X)).lim (by decide)) ((D.mul (Y.mul Y)).lim (by decide)), WI.of_add ((B.mul (X.mul Y)).lim (by decide)) ((B.mul (X.mul Y)).lim (by decide)),
    WI.of_add (((A.mul (X.mul X)).add (D.mul (Y.mul Y))).lim (by decide)) (((B.mul (X.mul Y)).add (B.mul (X.mul Y))).lim (by decide))]

end Go.Proofs.Ytgddblbpmfaahaa
