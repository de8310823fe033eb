/- The document's Root; the walk of StripHolds. -/
import Derived.Test.YtilginoibhfeiaaGreatV7
import Derived.Test.YtilginoibhfeiaaGreatHA
import Derived.Test.YtilginoibhfeiaaGreatVB
import Derived.Test.YtilginoibhfeiaaGreatRq
import Derived.Lib.QuietBelow
namespace Go.Proofs.YtilginoibhfeiaaGreat
open Go.RowKit

set_option maxRecDepth 100000 in
theorem rroot_v (n D : Int) (h : rtI n = D) (hn : -9223372036854775808 ≤ n ∧ n ≤ 9223372036854775807) (w : World) :
    Calls Tryz.prog 19 #[.int .i64 n] w fun e w' => e = .returned (.int .i64 D) ∧ Below w.heap.size w w' := by
  have HH : Hid (((rt n.toNat : Nat) : Int) = D) := h
  have HN := Lib.hid hn
  clear h hn
  go_enter Tryz.func19, Tryz.ntmps19
  go_wp2_with fail
  refine (isqrtB_r n HN.out.1 HN.out.2 _).mono ?_
  rw [HH.out]
  rintro e w1 ⟨rfl, hb1⟩
  go_wp2_with fail
  go_ret
  exact ⟨rfl, hb1⟩
/-- A distance that is told, off by no more than is told. -/
theorem told_of (e n : El) (p q p' q' s1 s2 D lo hi : Int) (he : e.has p q = true) (hn : n.has p' q' = true) (h1 : 0 ≤ s1) (h2 : 0 ≤ s2) (hD : rtI ((p - p') * (p - p') + (q - q') * (q - q')) = D) (hlo : max 0 (D - s1) = lo) (hhi : D + 1 + s2 = hi) (hm : hi ≤ 4194304) : Told e n p q p' q' lo hi := by
  have a1 := int_sq_nonneg (p - p')
  have a2 := int_sq_nonneg (q - q')
  have r := rtI_spec ((p - p') * (p - p') + (q - q') * (q - q')) (by omega)
  rw [hD] at r
  subst hlo; subst hhi
  refine ⟨he, hn, ?_, ?_, (mayRange_iff _ _).2 (by omega)⟩
  · have := sq_le_sq' (a := max 0 (D - s1)) (b := D) (by omega) (by omega); omega
  · have := sq_le_sq' (a := D + 1) (b := D + 1 + s2) (by omega) (by omega); omega
end Go.Proofs.YtilginoibhfeiaaGreat
