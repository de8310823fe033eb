/- Small tools for a region that only reads and calls. No program in sight. -/
import Derived.WalkKit
import Derived.BigQuiet
import Derived.Lib.QuietBelow
import Derived.Lib.Hide
namespace Go.Proofs.Ytfohihjeemmedaa
open Go.RowKit

theorem below_of_regrown {w w' : World} (h : ∃ p : Regrown, w' = Go.Sort.grow (redrawn w p.d) p.os) : Below w.heap.size w w' := by
  obtain ⟨⟨d, os⟩, rfl⟩ := h; exact below_regrown w d os
end Go.Proofs.Ytfohihjeemmedaa
