/- What the laws of grow say of two balls (awake); the walk of GrowTurns. -/
import Derived.Test.YtjfphfnfbgmlfaaE5
import Derived.Test.YtjfphfnfbgmlfaaQb
namespace Go.Proofs.Ytjfphfnfbgmlfaa
open Go.RowKit

theorem trace_v (x y a b d t : Int) (h : El.tr ⟨x, y, a, b, d⟩ = t) (w : World) :
    Calls Try.prog 31 #[elC x y a b d] w fun e w' => e = .returned (.int .i64 t) ∧ Below w.heap.size w w' := by
  subst h; exact trace_c x y a b d w

theorem rad_ten : El.rad ⟨0, 0, 100, 0, 100⟩ = 15 := by
  have h : (El.tr ⟨0, 0, 100, 0, 100⟩).toNat = 200 := by decide
  unfold El.rad
  rw [h, up_unique (n := 200) (r := 15) (by decide) (.inr (by decide))]; rfl
theorem grow_ten : growE ⟨0, 0, 100, 0, 100⟩ 10 = (⟨0, 0, 402, 0, 402⟩, 0) := by
  have hb : ballE 0 0 10 = (⟨0, 0, 100, 0, 100⟩, 0) := rfl
  have hs : sumEl ⟨0, 0, 100, 0, 100⟩ ⟨0, 0, 100, 0, 100⟩ = ⟨0, 0, 402, 0, 402⟩ := by
    unfold sumEl; rw [rad_ten]; rfl
  unfold growE
  rw [if_pos (by decide), if_neg (by decide), hb]
  unfold sumE
  rw [if_pos (by decide), hs, if_pos (by decide)]


end Go.Proofs.Ytjfphfnfbgmlfaa
