/- The walk of the document's MayFrame: kind 4. -/
import Derived.Test.YtdipecepgfaokaaN6
namespace Go.Proofs.Ytdipecepgfaokaa
set_option linter.unusedSimpArgs false
set_option linter.unusedVariables false
open Go.RowKit

set_option maxRecDepth 100000 in
set_option maxHeartbeats 8000000 in
theorem rmf4_0 (s bo sq st ds ta tb wh wn x y a b d : Int) (g1 : nodeB s = true) (g2 : inFB bo 65535 = true) (g3 : inFB sq 65535 = true) (g4 : inFB st 1000000 = true)  (e0 : nodeB ds = false) (w : World) :
    Calls Try.prog 11 #[frC 4 s bo sq st ds ta tb wh wn x y a b d] w fun e w' => e = .returned (.bool false) ∧ Below w.heap.size w w' := by
  go_enter Try.func11, Try.ntmps11
  go_wp2_with (first | (go_at_call 22; refine Calls.mono (rid_v _ _ (by assumption) _) ?_; rintro e w1 ⟨rfl, rfl⟩) | (go_at_call 23; refine Calls.mono (rser_v _ _ (by assumption) _) ?_; rintro e w1 ⟨rfl, rfl⟩) | (go_at_call 24; refine Calls.mono (rtime_v _ _ (by assumption) _) ?_; rintro e w1 ⟨rfl, rfl⟩) | (go_at_call 25; refine Calls.mono (rfine_v _ _ (by assumption) _) ?_; rintro e w1 ⟨rfl, rfl⟩) | (go_at_call 26; refine Calls.mono (rmark_v _ _ (by assumption) _) ?_; rintro e w1 ⟨rfl, rfl⟩))
  go_ret
  exact ⟨rfl, (by repeat (first | with_reducible exact Below.refl _ _ | with_reducible exact Below_of_hid (by assumption) | with_reducible refine Below.drew ?_ | with_reducible refine below_drewN ?_ _ | (with_reducible refine Below_putRow ?_ ?hB _ _; case hB => (first | omega | (simp; done) | (simp; omega))) | (with_reducible refine Below.alloc ?_ ?hB _; case hB => (first | omega | (simp; done) | (simp; omega))) | (with_reducible refine Below.setCell ?_ ?hB _; case hB => (first | omega | (simp; done) | (simp; omega))) | (with_reducible refine Below.trans ?_ (Below.mono (by assumption) ?hB); case hB => (first | omega | (simp; done) | (simp; omega)))))⟩
set_option maxRecDepth 100000 in
set_option maxHeartbeats 8000000 in
theorem rmf4_1 (s bo sq st ds ta tb wh wn x y a b d : Int) (g1 : nodeB s = true) (g2 : inFB bo 65535 = true) (g3 : inFB sq 65535 = true) (g4 : inFB st 1000000 = true)  (e0 : nodeB ds = true) (e1 : ds = s) (w : World) :
    Calls Try.prog 11 #[frC 4 s bo sq st ds ta tb wh wn x y a b d] w fun e w' => e = .returned (.bool false) ∧ Below w.heap.size w w' := by
  go_enter Try.func11, Try.ntmps11
  go_wp2_with (first | (go_at_call 22; refine Calls.mono (rid_v _ _ (by assumption) _) ?_; rintro e w1 ⟨rfl, rfl⟩) | (go_at_call 23; refine Calls.mono (rser_v _ _ (by assumption) _) ?_; rintro e w1 ⟨rfl, rfl⟩) | (go_at_call 24; refine Calls.mono (rtime_v _ _ (by assumption) _) ?_; rintro e w1 ⟨rfl, rfl⟩) | (go_at_call 25; refine Calls.mono (rfine_v _ _ (by assumption) _) ?_; rintro e w1 ⟨rfl, rfl⟩) | (go_at_call 26; refine Calls.mono (rmark_v _ _ (by assumption) _) ?_; rintro e w1 ⟨rfl, rfl⟩))
  go_ret
  exact ⟨rfl, (by repeat (first | with_reducible exact Below.refl _ _ | with_reducible exact Below_of_hid (by assumption) | with_reducible refine Below.drew ?_ | with_reducible refine below_drewN ?_ _ | (with_reducible refine Below_putRow ?_ ?hB _ _; case hB => (first | omega | (simp; done) | (simp; omega))) | (with_reducible refine Below.alloc ?_ ?hB _; case hB => (first | omega | (simp; done) | (simp; omega))) | (with_reducible refine Below.setCell ?_ ?hB _; case hB => (first | omega | (simp; done) | (simp; omega))) | (with_reducible refine Below.trans ?_ (Below.mono (by assumption) ?hB); case hB => (first | omega | (simp; done) | (simp; omega)))))⟩
set_option maxRecDepth 100000 in
set_option maxHeartbeats 8000000 in
theorem rmf4_2 (s bo sq st ds ta tb wh wn x y a b d : Int) (g1 : nodeB s = true) (g2 : inFB bo 65535 = true) (g3 : inFB sq 65535 = true) (g4 : inFB st 1000000 = true)  (e0 : nodeB ds = true) (e1 : ¬ ds = s) (e2 : inFB ta 70368744177664 = false) (w : World) :
    Calls Try.prog 11 #[frC 4 s bo sq st ds ta tb wh wn x y a b d] w fun e w' => e = .returned (.bool false) ∧ Below w.heap.size w w' := by
  go_enter Try.func11, Try.ntmps11
  go_upto_region 12 with (first | (go_at_call 22; refine Calls.mono (rid_v _ _ (by assumption) _) ?_; rintro e w1 ⟨rfl, rfl⟩) | (go_at_call 23; refine Calls.mono (rser_v _ _ (by assumption) _) ?_; rintro e w1 ⟨rfl, rfl⟩) | (go_at_call 24; refine Calls.mono (rtime_v _ _ (by assumption) _) ?_; rintro e w1 ⟨rfl, rfl⟩) | (go_at_call 25; refine Calls.mono (rfine_v _ _ (by assumption) _) ?_; rintro e w1 ⟨rfl, rfl⟩) | (go_at_call 26; refine Calls.mono (rmark_v _ _ (by assumption) _) ?_; rintro e w1 ⟨rfl, rfl⟩))
  go_region
  go_wp2_with (first | (go_at_call 22; refine Calls.mono (rid_v _ _ (by assumption) _) ?_; rintro e w1 ⟨rfl, rfl⟩) | (go_at_call 23; refine Calls.mono (rser_v _ _ (by assumption) _) ?_; rintro e w1 ⟨rfl, rfl⟩) | (go_at_call 24; refine Calls.mono (rtime_v _ _ (by assumption) _) ?_; rintro e w1 ⟨rfl, rfl⟩) | (go_at_call 25; refine Calls.mono (rfine_v _ _ (by assumption) _) ?_; rintro e w1 ⟨rfl, rfl⟩) | (go_at_call 26; refine Calls.mono (rmark_v _ _ (by assumption) _) ?_; rintro e w1 ⟨rfl, rfl⟩))
  go_ret
  exact ⟨rfl, (by repeat (first | with_reducible exact Below.refl _ _ | with_reducible exact Below_of_hid (by assumption) | with_reducible refine Below.drew ?_ | with_reducible refine below_drewN ?_ _ | (with_reducible refine Below_putRow ?_ ?hB _ _; case hB => (first | omega | (simp; done) | (simp; omega))) | (with_reducible refine Below.alloc ?_ ?hB _; case hB => (first | omega | (simp; done) | (simp; omega))) | (with_reducible refine Below.setCell ?_ ?hB _; case hB => (first | omega | (simp; done) | (simp; omega))) | (with_reducible refine Below.trans ?_ (Below.mono (by assumption) ?hB); case hB => (first | omega | (simp; done) | (simp; omega)))))⟩
set_option maxRecDepth 100000 in
set_option maxHeartbeats 8000000 in
theorem rmf4_3 (s bo sq st ds ta tb wh wn x y a b d : Int) (g1 : nodeB s = true) (g2 : inFB bo 65535 = true) (g3 : inFB sq 65535 = true) (g4 : inFB st 1000000 = true)  (e0 : nodeB ds = true) (e1 : ¬ ds = s) (e2 : inFB ta 70368744177664 = true) (e3 : inFB tb 70368744177664 = false) (w : World) :
    Calls Try.prog 11 #[frC 4 s bo sq st ds ta tb wh wn x y a b d] w fun e w' => e = .returned (.bool false) ∧ Below w.heap.size w w' := by
  go_enter Try.func11, Try.ntmps11
  go_upto_region 12 with (first | (go_at_call 22; refine Calls.mono (rid_v _ _ (by assumption) _) ?_; rintro e w1 ⟨rfl, rfl⟩) | (go_at_call 23; refine Calls.mono (rser_v _ _ (by assumption) _) ?_; rintro e w1 ⟨rfl, rfl⟩) | (go_at_call 24; refine Calls.mono (rtime_v _ _ (by assumption) _) ?_; rintro e w1 ⟨rfl, rfl⟩) | (go_at_call 25; refine Calls.mono (rfine_v _ _ (by assumption) _) ?_; rintro e w1 ⟨rfl, rfl⟩) | (go_at_call 26; refine Calls.mono (rmark_v _ _ (by assumption) _) ?_; rintro e w1 ⟨rfl, rfl⟩))
  go_region
  go_wp2_with (first | (go_at_call 22; refine Calls.mono (rid_v _ _ (by assumption) _) ?_; rintro e w1 ⟨rfl, rfl⟩) | (go_at_call 23; refine Calls.mono (rser_v _ _ (by assumption) _) ?_; rintro e w1 ⟨rfl, rfl⟩) | (go_at_call 24; refine Calls.mono (rtime_v _ _ (by assumption) _) ?_; rintro e w1 ⟨rfl, rfl⟩) | (go_at_call 25; refine Calls.mono (rfine_v _ _ (by assumption) _) ?_; rintro e w1 ⟨rfl, rfl⟩) | (go_at_call 26; refine Calls.mono (rmark_v _ _ (by assumption) _) ?_; rintro e w1 ⟨rfl, rfl⟩))
  go_ret
  exact ⟨rfl, (by repeat (first | with_reducible exact Below.refl _ _ | with_reducible exact Below_of_hid (by assumption) | with_reducible refine Below.drew ?_ | with_reducible refine below_drewN ?_ _ | (with_reducible refine Below_putRow ?_ ?hB _ _; case hB => (first | omega | (simp; done) | (simp; omega))) | (with_reducible refine Below.alloc ?_ ?hB _; case hB => (first | omega | (simp; done) | (simp; omega))) | (with_reducible refine Below.setCell ?_ ?hB _; case hB => (first | omega | (simp; done) | (simp; omega))) | (with_reducible refine Below.trans ?_ (Below.mono (by assumption) ?hB); case hB => (first | omega | (simp; done) | (simp; omega)))))⟩
set_option maxRecDepth 100000 in
set_option maxHeartbeats 8000000 in
theorem rmf4_4 (s bo sq st ds ta tb wh wn x y a b d : Int) (g1 : nodeB s = true) (g2 : inFB bo 65535 = true) (g3 : inFB sq 65535 = true) (g4 : inFB st 1000000 = true)  (e0 : nodeB ds = true) (e1 : ¬ ds = s) (e2 : inFB ta 70368744177664 = true) (e3 : inFB tb 70368744177664 = true) (e4 : inFB wn 4294967295 = false) (w : World) :
    Calls Try.prog 11 #[frC 4 s bo sq st ds ta tb wh wn x y a b d] w fun e w' => e = .returned (.bool false) ∧ Below w.heap.size w w' := by
  go_enter Try.func11, Try.ntmps11
  go_upto_region 12 with (first | (go_at_call 22; refine Calls.mono (rid_v _ _ (by assumption) _) ?_; rintro e w1 ⟨rfl, rfl⟩) | (go_at_call 23; refine Calls.mono (rser_v _ _ (by assumption) _) ?_; rintro e w1 ⟨rfl, rfl⟩) | (go_at_call 24; refine Calls.mono (rtime_v _ _ (by assumption) _) ?_; rintro e w1 ⟨rfl, rfl⟩) | (go_at_call 25; refine Calls.mono (rfine_v _ _ (by assumption) _) ?_; rintro e w1 ⟨rfl, rfl⟩) | (go_at_call 26; refine Calls.mono (rmark_v _ _ (by assumption) _) ?_; rintro e w1 ⟨rfl, rfl⟩))
  go_region
  go_wp2_with (first | (go_at_call 22; refine Calls.mono (rid_v _ _ (by assumption) _) ?_; rintro e w1 ⟨rfl, rfl⟩) | (go_at_call 23; refine Calls.mono (rser_v _ _ (by assumption) _) ?_; rintro e w1 ⟨rfl, rfl⟩) | (go_at_call 24; refine Calls.mono (rtime_v _ _ (by assumption) _) ?_; rintro e w1 ⟨rfl, rfl⟩) | (go_at_call 25; refine Calls.mono (rfine_v _ _ (by assumption) _) ?_; rintro e w1 ⟨rfl, rfl⟩) | (go_at_call 26; refine Calls.mono (rmark_v _ _ (by assumption) _) ?_; rintro e w1 ⟨rfl, rfl⟩))
  go_ret
  exact ⟨rfl, (by repeat (first | with_reducible exact Below.refl _ _ | with_reducible exact Below_of_hid (by assumption) | with_reducible refine Below.drew ?_ | with_reducible refine below_drewN ?_ _ | (with_reducible refine Below_putRow ?_ ?hB _ _; case hB => (first | omega | (simp; done) | (simp; omega))) | (with_reducible refine Below.alloc ?_ ?hB _; case hB => (first | omega | (simp; done) | (simp; omega))) | (with_reducible refine Below.setCell ?_ ?hB _; case hB => (first | omega | (simp; done) | (simp; omega))) | (with_reducible refine Below.trans ?_ (Below.mono (by assumption) ?hB); case hB => (first | omega | (simp; done) | (simp; omega)))))⟩
set_option maxRecDepth 100000 in
set_option maxHeartbeats 8000000 in
theorem rmf4_t (s bo sq st ds ta tb wh wn x y a b d : Int) (g1 : nodeB s = true) (g2 : inFB bo 65535 = true) (g3 : inFB sq 65535 = true) (g4 : inFB st 1000000 = true)  (e0 : nodeB ds = true) (e1 : ¬ ds = s) (e2 : inFB ta 70368744177664 = true) (e3 : inFB tb 70368744177664 = true) (e4 : inFB wn 4294967295 = true) (w : World) :
    Calls Try.prog 11 #[frC 4 s bo sq st ds ta tb wh wn x y a b d] w fun e w' => e = .returned (.bool (decide ((⟨4, s, bo, sq, st, ds, ta, tb, wh, wn, x, y, a, b, d⟩ : FrD) = ⟨4, s, bo, sq, st, ds, ta, tb, 0, wn, 0, 0, 0, 0, 0⟩))) ∧ Below w.heap.size w w' := by
  go_enter Try.func11, Try.ntmps11
  obtain ⟨E, hE⟩ : ∃ z, decide ((⟨4, s, bo, sq, st, ds, ta, tb, wh, wn, x, y, a, b, d⟩ : FrD) = ⟨4, s, bo, sq, st, ds, ta, tb, 0, wn, 0, 0, 0, 0, 0⟩) = z := ⟨_, rfl⟩
  rw [hE]
  have q5 : ∀ w' : World, Sem.run Try.prog (binOp .eql 29 (frC 4 s bo sq st ds ta tb wh wn x y a b d) (frC 4 s bo sq st ds ta tb 0 wn 0 0 0 0 0)) w' = .ok (.bool E) w' := fun w' => by rw [← hE]; exact eql_fr 4 s bo sq st ds ta tb wh wn x y a b d 4 s bo sq st ds ta tb 0 wn 0 0 0 0 0 w'
  have q6 : ∀ (p q : Operand) (w' : World), Sem.run Try.prog (eqGuard .eql 29 p q (frC 4 s bo sq st ds ta tb wh wn x y a b d) (frC 4 s bo sq st ds ta tb 0 wn 0 0 0 0 0)) w' = .ok () w' := fun p q w' => eqg_fr .eql p q ⟨4, s, bo, sq, st, ds, ta, tb, wh, wn, x, y, a, b, d⟩ ⟨4, s, bo, sq, st, ds, ta, tb, 0, wn, 0, 0, 0, 0, 0⟩ w'
  clear hE
  go_upto_region 12 with (first | (go_at_call 22; refine Calls.mono (rid_v _ _ (by assumption) _) ?_; rintro e w1 ⟨rfl, rfl⟩) | (go_at_call 23; refine Calls.mono (rser_v _ _ (by assumption) _) ?_; rintro e w1 ⟨rfl, rfl⟩) | (go_at_call 24; refine Calls.mono (rtime_v _ _ (by assumption) _) ?_; rintro e w1 ⟨rfl, rfl⟩) | (go_at_call 25; refine Calls.mono (rfine_v _ _ (by assumption) _) ?_; rintro e w1 ⟨rfl, rfl⟩) | (go_at_call 26; refine Calls.mono (rmark_v _ _ (by assumption) _) ?_; rintro e w1 ⟨rfl, rfl⟩))
  go_region
  go_wp2_with (first | (go_at_call 22; refine Calls.mono (rid_v _ _ (by assumption) _) ?_; rintro e w1 ⟨rfl, rfl⟩) | (go_at_call 23; refine Calls.mono (rser_v _ _ (by assumption) _) ?_; rintro e w1 ⟨rfl, rfl⟩) | (go_at_call 24; refine Calls.mono (rtime_v _ _ (by assumption) _) ?_; rintro e w1 ⟨rfl, rfl⟩) | (go_at_call 25; refine Calls.mono (rfine_v _ _ (by assumption) _) ?_; rintro e w1 ⟨rfl, rfl⟩) | (go_at_call 26; refine Calls.mono (rmark_v _ _ (by assumption) _) ?_; rintro e w1 ⟨rfl, rfl⟩))
  go_ret
  exact ⟨rfl, (by repeat (first | with_reducible exact Below.refl _ _ | with_reducible exact Below_of_hid (by assumption) | with_reducible refine Below.drew ?_ | with_reducible refine below_drewN ?_ _ | (with_reducible refine Below_putRow ?_ ?hB _ _; case hB => (first | omega | (simp; done) | (simp; omega))) | (with_reducible refine Below.alloc ?_ ?hB _; case hB => (first | omega | (simp; done) | (simp; omega))) | (with_reducible refine Below.setCell ?_ ?hB _; case hB => (first | omega | (simp; done) | (simp; omega))) | (with_reducible refine Below.trans ?_ (Below.mono (by assumption) ?hB); case hB => (first | omega | (simp; done) | (simp; omega)))))⟩
end Go.Proofs.Ytdipecepgfaokaa
