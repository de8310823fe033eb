/- The walk of the document's MayFrame: what is wrong in any kind. -/
import Derived.Test.YtdipecepgfaokaaN6
namespace Go.Proofs.Ytdipecepgfaokaa
set_option linter.unusedSimpArgs false
set_option linter.unusedVariables false
open Go.RowKit

set_option maxRecDepth 100000 in
set_option maxHeartbeats 8000000 in
theorem rmf_lo (k s bo sq st ds ta tb wh wn x y a b d : Int) (h : k < 1) (w : World) :
    Calls Try.prog 11 #[frC k s bo sq st ds ta tb wh wn x y a b d] w fun e w' => e = .returned (.bool false) ∧ Below w.heap.size w w' := by
  go_enter Try.func11, Try.ntmps11
  go_wp2_with (first | (go_at_call 22; refine Calls.mono (rid_v _ _ (by assumption) _) ?_; rintro e w1 ⟨rfl, rfl⟩) | (go_at_call 23; refine Calls.mono (rser_v _ _ (by assumption) _) ?_; rintro e w1 ⟨rfl, rfl⟩) | (go_at_call 24; refine Calls.mono (rtime_v _ _ (by assumption) _) ?_; rintro e w1 ⟨rfl, rfl⟩) | (go_at_call 25; refine Calls.mono (rfine_v _ _ (by assumption) _) ?_; rintro e w1 ⟨rfl, rfl⟩) | (go_at_call 26; refine Calls.mono (rmark_v _ _ (by assumption) _) ?_; rintro e w1 ⟨rfl, rfl⟩))
  go_ret
  exact ⟨rfl, (by repeat (first | with_reducible exact Below.refl _ _ | with_reducible exact Below_of_hid (by assumption) | with_reducible refine Below.drew ?_ | with_reducible refine below_drewN ?_ _ | (with_reducible refine Below_putRow ?_ ?hB _ _; case hB => (first | omega | (simp; done) | (simp; omega))) | (with_reducible refine Below.alloc ?_ ?hB _; case hB => (first | omega | (simp; done) | (simp; omega))) | (with_reducible refine Below.setCell ?_ ?hB _; case hB => (first | omega | (simp; done) | (simp; omega))) | (with_reducible refine Below.trans ?_ (Below.mono (by assumption) ?hB); case hB => (first | omega | (simp; done) | (simp; omega)))))⟩
set_option maxRecDepth 100000 in
set_option maxHeartbeats 8000000 in
theorem rmf_hi (k s bo sq st ds ta tb wh wn x y a b d : Int) (h0 : ¬ k < 1) (h : 7 < k) (w : World) :
    Calls Try.prog 11 #[frC k s bo sq st ds ta tb wh wn x y a b d] w fun e w' => e = .returned (.bool false) ∧ Below w.heap.size w w' := by
  go_enter Try.func11, Try.ntmps11
  go_wp2_with (first | (go_at_call 22; refine Calls.mono (rid_v _ _ (by assumption) _) ?_; rintro e w1 ⟨rfl, rfl⟩) | (go_at_call 23; refine Calls.mono (rser_v _ _ (by assumption) _) ?_; rintro e w1 ⟨rfl, rfl⟩) | (go_at_call 24; refine Calls.mono (rtime_v _ _ (by assumption) _) ?_; rintro e w1 ⟨rfl, rfl⟩) | (go_at_call 25; refine Calls.mono (rfine_v _ _ (by assumption) _) ?_; rintro e w1 ⟨rfl, rfl⟩) | (go_at_call 26; refine Calls.mono (rmark_v _ _ (by assumption) _) ?_; rintro e w1 ⟨rfl, rfl⟩))
  go_ret
  exact ⟨rfl, (by repeat (first | with_reducible exact Below.refl _ _ | with_reducible exact Below_of_hid (by assumption) | with_reducible refine Below.drew ?_ | with_reducible refine below_drewN ?_ _ | (with_reducible refine Below_putRow ?_ ?hB _ _; case hB => (first | omega | (simp; done) | (simp; omega))) | (with_reducible refine Below.alloc ?_ ?hB _; case hB => (first | omega | (simp; done) | (simp; omega))) | (with_reducible refine Below.setCell ?_ ?hB _; case hB => (first | omega | (simp; done) | (simp; omega))) | (with_reducible refine Below.trans ?_ (Below.mono (by assumption) ?hB); case hB => (first | omega | (simp; done) | (simp; omega)))))⟩
set_option maxRecDepth 100000 in
set_option maxHeartbeats 8000000 in
theorem rmf_1 (k s bo sq st ds ta tb wh wn x y a b d : Int) (h0 : ¬ k < 1) (h1 : ¬ 7 < k)  (g1 : nodeB s = false) (w : World) :
    Calls Try.prog 11 #[frC k s bo sq st ds ta tb wh wn x y a b d] w fun e w' => e = .returned (.bool false) ∧ Below w.heap.size w w' := by
  go_enter Try.func11, Try.ntmps11
  go_wp2_with (first | (go_at_call 22; refine Calls.mono (rid_v _ _ (by assumption) _) ?_; rintro e w1 ⟨rfl, rfl⟩) | (go_at_call 23; refine Calls.mono (rser_v _ _ (by assumption) _) ?_; rintro e w1 ⟨rfl, rfl⟩) | (go_at_call 24; refine Calls.mono (rtime_v _ _ (by assumption) _) ?_; rintro e w1 ⟨rfl, rfl⟩) | (go_at_call 25; refine Calls.mono (rfine_v _ _ (by assumption) _) ?_; rintro e w1 ⟨rfl, rfl⟩) | (go_at_call 26; refine Calls.mono (rmark_v _ _ (by assumption) _) ?_; rintro e w1 ⟨rfl, rfl⟩))
  go_ret
  exact ⟨rfl, (by repeat (first | with_reducible exact Below.refl _ _ | with_reducible exact Below_of_hid (by assumption) | with_reducible refine Below.drew ?_ | with_reducible refine below_drewN ?_ _ | (with_reducible refine Below_putRow ?_ ?hB _ _; case hB => (first | omega | (simp; done) | (simp; omega))) | (with_reducible refine Below.alloc ?_ ?hB _; case hB => (first | omega | (simp; done) | (simp; omega))) | (with_reducible refine Below.setCell ?_ ?hB _; case hB => (first | omega | (simp; done) | (simp; omega))) | (with_reducible refine Below.trans ?_ (Below.mono (by assumption) ?hB); case hB => (first | omega | (simp; done) | (simp; omega)))))⟩
set_option maxRecDepth 100000 in
set_option maxHeartbeats 8000000 in
theorem rmf_2 (k s bo sq st ds ta tb wh wn x y a b d : Int) (h0 : ¬ k < 1) (h1 : ¬ 7 < k) (g1 : nodeB s = true) (g2 : inFB bo 65535 = false) (w : World) :
    Calls Try.prog 11 #[frC k s bo sq st ds ta tb wh wn x y a b d] w fun e w' => e = .returned (.bool false) ∧ Below w.heap.size w w' := by
  go_enter Try.func11, Try.ntmps11
  go_wp2_with (first | (go_at_call 22; refine Calls.mono (rid_v _ _ (by assumption) _) ?_; rintro e w1 ⟨rfl, rfl⟩) | (go_at_call 23; refine Calls.mono (rser_v _ _ (by assumption) _) ?_; rintro e w1 ⟨rfl, rfl⟩) | (go_at_call 24; refine Calls.mono (rtime_v _ _ (by assumption) _) ?_; rintro e w1 ⟨rfl, rfl⟩) | (go_at_call 25; refine Calls.mono (rfine_v _ _ (by assumption) _) ?_; rintro e w1 ⟨rfl, rfl⟩) | (go_at_call 26; refine Calls.mono (rmark_v _ _ (by assumption) _) ?_; rintro e w1 ⟨rfl, rfl⟩))
  go_ret
  exact ⟨rfl, (by repeat (first | with_reducible exact Below.refl _ _ | with_reducible exact Below_of_hid (by assumption) | with_reducible refine Below.drew ?_ | with_reducible refine below_drewN ?_ _ | (with_reducible refine Below_putRow ?_ ?hB _ _; case hB => (first | omega | (simp; done) | (simp; omega))) | (with_reducible refine Below.alloc ?_ ?hB _; case hB => (first | omega | (simp; done) | (simp; omega))) | (with_reducible refine Below.setCell ?_ ?hB _; case hB => (first | omega | (simp; done) | (simp; omega))) | (with_reducible refine Below.trans ?_ (Below.mono (by assumption) ?hB); case hB => (first | omega | (simp; done) | (simp; omega)))))⟩
set_option maxRecDepth 100000 in
set_option maxHeartbeats 8000000 in
theorem rmf_3 (k s bo sq st ds ta tb wh wn x y a b d : Int) (h0 : ¬ k < 1) (h1 : ¬ 7 < k) (g1 : nodeB s = true) (g2 : inFB bo 65535 = true) (g3 : inFB sq 65535 = false) (w : World) :
    Calls Try.prog 11 #[frC k s bo sq st ds ta tb wh wn x y a b d] w fun e w' => e = .returned (.bool false) ∧ Below w.heap.size w w' := by
  go_enter Try.func11, Try.ntmps11
  go_wp2_with (first | (go_at_call 22; refine Calls.mono (rid_v _ _ (by assumption) _) ?_; rintro e w1 ⟨rfl, rfl⟩) | (go_at_call 23; refine Calls.mono (rser_v _ _ (by assumption) _) ?_; rintro e w1 ⟨rfl, rfl⟩) | (go_at_call 24; refine Calls.mono (rtime_v _ _ (by assumption) _) ?_; rintro e w1 ⟨rfl, rfl⟩) | (go_at_call 25; refine Calls.mono (rfine_v _ _ (by assumption) _) ?_; rintro e w1 ⟨rfl, rfl⟩) | (go_at_call 26; refine Calls.mono (rmark_v _ _ (by assumption) _) ?_; rintro e w1 ⟨rfl, rfl⟩))
  go_ret
  exact ⟨rfl, (by repeat (first | with_reducible exact Below.refl _ _ | with_reducible exact Below_of_hid (by assumption) | with_reducible refine Below.drew ?_ | with_reducible refine below_drewN ?_ _ | (with_reducible refine Below_putRow ?_ ?hB _ _; case hB => (first | omega | (simp; done) | (simp; omega))) | (with_reducible refine Below.alloc ?_ ?hB _; case hB => (first | omega | (simp; done) | (simp; omega))) | (with_reducible refine Below.setCell ?_ ?hB _; case hB => (first | omega | (simp; done) | (simp; omega))) | (with_reducible refine Below.trans ?_ (Below.mono (by assumption) ?hB); case hB => (first | omega | (simp; done) | (simp; omega)))))⟩
set_option maxRecDepth 100000 in
set_option maxHeartbeats 8000000 in
theorem rmf_4 (k s bo sq st ds ta tb wh wn x y a b d : Int) (h0 : ¬ k < 1) (h1 : ¬ 7 < k) (g1 : nodeB s = true) (g2 : inFB bo 65535 = true) (g3 : inFB sq 65535 = true) (g4 : inFB st 1000000 = false) (w : World) :
    Calls Try.prog 11 #[frC k s bo sq st ds ta tb wh wn x y a b d] w fun e w' => e = .returned (.bool false) ∧ Below w.heap.size w w' := by
  go_enter Try.func11, Try.ntmps11
  go_wp2_with (first | (go_at_call 22; refine Calls.mono (rid_v _ _ (by assumption) _) ?_; rintro e w1 ⟨rfl, rfl⟩) | (go_at_call 23; refine Calls.mono (rser_v _ _ (by assumption) _) ?_; rintro e w1 ⟨rfl, rfl⟩) | (go_at_call 24; refine Calls.mono (rtime_v _ _ (by assumption) _) ?_; rintro e w1 ⟨rfl, rfl⟩) | (go_at_call 25; refine Calls.mono (rfine_v _ _ (by assumption) _) ?_; rintro e w1 ⟨rfl, rfl⟩) | (go_at_call 26; refine Calls.mono (rmark_v _ _ (by assumption) _) ?_; rintro e w1 ⟨rfl, rfl⟩))
  go_ret
  exact ⟨rfl, (by repeat (first | with_reducible exact Below.refl _ _ | with_reducible exact Below_of_hid (by assumption) | with_reducible refine Below.drew ?_ | with_reducible refine below_drewN ?_ _ | (with_reducible refine Below_putRow ?_ ?hB _ _; case hB => (first | omega | (simp; done) | (simp; omega))) | (with_reducible refine Below.alloc ?_ ?hB _; case hB => (first | omega | (simp; done) | (simp; omega))) | (with_reducible refine Below.setCell ?_ ?hB _; case hB => (first | omega | (simp; done) | (simp; omega))) | (with_reducible refine Below.trans ?_ (Below.mono (by assumption) ?hB); case hB => (first | omega | (simp; done) | (simp; omega)))))⟩
end Go.Proofs.Ytdipecepgfaokaa
