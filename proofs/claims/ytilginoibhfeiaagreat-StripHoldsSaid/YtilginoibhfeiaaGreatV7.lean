/- awake of the laws of strip; the walk of StripLess. -/
import Derived.Test.YtilginoibhfeiaaGreatVB
import Derived.Lib.QuietBelow
import Derived.BigQuiet
namespace Go.Proofs.YtilginoibhfeiaaGreat
open Go.RowKit

set_option maxRecDepth 100000 in
set_option maxHeartbeats 4000000 in
theorem awake8_c (w : World) : Calls Tryz.prog 18 #[] w fun e w' => e = .returned (.bool true) ∧ Below w.heap.size w w' := by
  have h1 : Hid (ballE 100 0 50 = (⟨100, 0, 2500, 0, 2500⟩, 0)) := show _ = _ from rfl
  have h2 : Hid (ballE 0 0 1 = (⟨0, 0, 1, 0, 1⟩, 0)) := show _ = _ from rfl
  have h3 := Lib.hid aw8_upd
  have h4 := Lib.hid aw8_in
  go_enter Tryz.func18, Tryz.ntmps18
  go_wp2_with fail
  refine (ellball_v _ _ _ _ _ _ _ _ _ h1.out _).mono ?_; rintro e w1 ⟨rfl, hb1⟩
  have z1 := hb1.size
  go_wp2_with fail
  refine (ellball_v _ _ _ _ _ _ _ _ _ h2.out _).mono ?_; rintro e w2 ⟨rfl, hb2⟩; have z_w2 := hb2.size; (try simp at z_w2); obtain ⟨y_w2_0_0, c_w2_0_0, f_w2_0_0, r_w2_0_0, t_w2_0_0, p_w2_0_0⟩ := bq hb2 (w1.heap.size)
  go_wp2_with fail
  refine (upd_v _ _ _ _ _ _ _ _ _ _ _ _ _ _ _ _ _ _ h3.out _).mono ?_; rintro e w3 ⟨rfl, hb3⟩; have z_w3 := hb3.size; (try simp at z_w3); obtain ⟨y_w3_0_0, c_w3_0_0, f_w3_0_0, r_w3_0_0, t_w3_0_0, p_w3_0_0⟩ := bq hb3 (w1.heap.size)
  go_wp2_with fail
  refine (ellin_v _ _ _ _ _ _ _ _ h4.out _).mono ?_; rintro e w4 ⟨rfl, hb4⟩
  have z4 := hb4.size
  go_wp2_with fail
  go_ret
  exact ⟨rfl, below_byR⟩
end Go.Proofs.YtilginoibhfeiaaGreat
