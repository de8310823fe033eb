/- The walk of the document's MayFrame: kinds 1, 7, 2, 3. -/
import Derived.Test.YtdipecepgfaokaaN6
namespace Go.Proofs.Ytdipecepgfaokaa
set_option linter.unusedSimpArgs false
set_option linter.unusedVariables false
open Go.RowKit

set_option maxRecDepth 100000 in
set_option maxHeartbeats 8000000 in
theorem rmf1_t (s bo sq st ds ta tb wh wn x y a b d : Int) (g1 : nodeB s = true) (g2 : inFB bo 65535 = true) (g3 : inFB sq 65535 = true) (g4 : inFB st 1000000 = true)  (w : World) :
    Calls Try.prog 11 #[frC 1 s bo sq st ds ta tb wh wn x y a b d] w fun e w' => e = .returned (.bool (decide ((⟨1, s, bo, sq, st, ds, ta, tb, wh, wn, x, y, a, b, d⟩ : FrD) = ⟨1, s, bo, sq, st, 0, 0, 0, 0, 0, 0, 0, 0, 0, 0⟩))) ∧ Below w.heap.size w w' := by
  go_enter Try.func11, Try.ntmps11
  obtain ⟨E, hE⟩ : ∃ z, decide ((⟨1, s, bo, sq, st, ds, ta, tb, wh, wn, x, y, a, b, d⟩ : FrD) = ⟨1, s, bo, sq, st, 0, 0, 0, 0, 0, 0, 0, 0, 0, 0⟩) = z := ⟨_, rfl⟩
  rw [hE]
  have q5 : ∀ w' : World, Sem.run Try.prog (binOp .eql 29 (frC 1 s bo sq st ds ta tb wh wn x y a b d) (frC 1 s bo sq st 0 0 0 0 0 0 0 0 0 0)) w' = .ok (.bool E) w' := fun w' => by rw [← hE]; exact eql_fr 1 s bo sq st ds ta tb wh wn x y a b d 1 s bo sq st 0 0 0 0 0 0 0 0 0 0 w'
  have q6 : ∀ (p q : Operand) (w' : World), Sem.run Try.prog (eqGuard .eql 29 p q (frC 1 s bo sq st ds ta tb wh wn x y a b d) (frC 1 s bo sq st 0 0 0 0 0 0 0 0 0 0)) w' = .ok () w' := fun p q w' => eqg_fr .eql p q ⟨1, s, bo, sq, st, ds, ta, tb, wh, wn, x, y, a, b, d⟩ ⟨1, s, bo, sq, st, 0, 0, 0, 0, 0, 0, 0, 0, 0, 0⟩ w'
  clear hE
  go_wp2_with (first | (go_at_call 22; refine Calls.mono (rid_v _ _ (by assumption) _) ?_; rintro e w1 ⟨rfl, rfl⟩) | (go_at_call 23; refine Calls.mono (rser_v _ _ (by assumption) _) ?_; rintro e w1 ⟨rfl, rfl⟩) | (go_at_call 24; refine Calls.mono (rtime_v _ _ (by assumption) _) ?_; rintro e w1 ⟨rfl, rfl⟩) | (go_at_call 25; refine Calls.mono (rfine_v _ _ (by assumption) _) ?_; rintro e w1 ⟨rfl, rfl⟩) | (go_at_call 26; refine Calls.mono (rmark_v _ _ (by assumption) _) ?_; rintro e w1 ⟨rfl, rfl⟩))
  go_ret
  exact ⟨rfl, (by repeat (first | with_reducible exact Below.refl _ _ | with_reducible exact Below_of_hid (by assumption) | with_reducible refine Below.drew ?_ | with_reducible refine below_drewN ?_ _ | (with_reducible refine Below_putRow ?_ ?hB _ _; case hB => (first | omega | (simp; done) | (simp; omega))) | (with_reducible refine Below.alloc ?_ ?hB _; case hB => (first | omega | (simp; done) | (simp; omega))) | (with_reducible refine Below.setCell ?_ ?hB _; case hB => (first | omega | (simp; done) | (simp; omega))) | (with_reducible refine Below.trans ?_ (Below.mono (by assumption) ?hB); case hB => (first | omega | (simp; done) | (simp; omega)))))⟩
set_option maxRecDepth 100000 in
set_option maxHeartbeats 8000000 in
theorem rmf7_t (s bo sq st ds ta tb wh wn x y a b d : Int) (g1 : nodeB s = true) (g2 : inFB bo 65535 = true) (g3 : inFB sq 65535 = true) (g4 : inFB st 1000000 = true)  (w : World) :
    Calls Try.prog 11 #[frC 7 s bo sq st ds ta tb wh wn x y a b d] w fun e w' => e = .returned (.bool (decide ((⟨7, s, bo, sq, st, ds, ta, tb, wh, wn, x, y, a, b, d⟩ : FrD) = ⟨7, s, bo, sq, st, 0, 0, 0, 0, 0, 0, 0, 0, 0, 0⟩))) ∧ Below w.heap.size w w' := by
  go_enter Try.func11, Try.ntmps11
  obtain ⟨E, hE⟩ : ∃ z, decide ((⟨7, s, bo, sq, st, ds, ta, tb, wh, wn, x, y, a, b, d⟩ : FrD) = ⟨7, s, bo, sq, st, 0, 0, 0, 0, 0, 0, 0, 0, 0, 0⟩) = z := ⟨_, rfl⟩
  rw [hE]
  have q5 : ∀ w' : World, Sem.run Try.prog (binOp .eql 29 (frC 7 s bo sq st ds ta tb wh wn x y a b d) (frC 7 s bo sq st 0 0 0 0 0 0 0 0 0 0)) w' = .ok (.bool E) w' := fun w' => by rw [← hE]; exact eql_fr 7 s bo sq st ds ta tb wh wn x y a b d 7 s bo sq st 0 0 0 0 0 0 0 0 0 0 w'
  have q6 : ∀ (p q : Operand) (w' : World), Sem.run Try.prog (eqGuard .eql 29 p q (frC 7 s bo sq st ds ta tb wh wn x y a b d) (frC 7 s bo sq st 0 0 0 0 0 0 0 0 0 0)) w' = .ok () w' := fun p q w' => eqg_fr .eql p q ⟨7, s, bo, sq, st, ds, ta, tb, wh, wn, x, y, a, b, d⟩ ⟨7, s, bo, sq, st, 0, 0, 0, 0, 0, 0, 0, 0, 0, 0⟩ w'
  clear hE
  go_wp2_with (first | (go_at_call 22; refine Calls.mono (rid_v _ _ (by assumption) _) ?_; rintro e w1 ⟨rfl, rfl⟩) | (go_at_call 23; refine Calls.mono (rser_v _ _ (by assumption) _) ?_; rintro e w1 ⟨rfl, rfl⟩) | (go_at_call 24; refine Calls.mono (rtime_v _ _ (by assumption) _) ?_; rintro e w1 ⟨rfl, rfl⟩) | (go_at_call 25; refine Calls.mono (rfine_v _ _ (by assumption) _) ?_; rintro e w1 ⟨rfl, rfl⟩) | (go_at_call 26; refine Calls.mono (rmark_v _ _ (by assumption) _) ?_; rintro e w1 ⟨rfl, rfl⟩))
  go_ret
  exact ⟨rfl, (by repeat (first | with_reducible exact Below.refl _ _ | with_reducible exact Below_of_hid (by assumption) | with_reducible refine Below.drew ?_ | with_reducible refine below_drewN ?_ _ | (with_reducible refine Below_putRow ?_ ?hB _ _; case hB => (first | omega | (simp; done) | (simp; omega))) | (with_reducible refine Below.alloc ?_ ?hB _; case hB => (first | omega | (simp; done) | (simp; omega))) | (with_reducible refine Below.setCell ?_ ?hB _; case hB => (first | omega | (simp; done) | (simp; omega))) | (with_reducible refine Below.trans ?_ (Below.mono (by assumption) ?hB); case hB => (first | omega | (simp; done) | (simp; omega)))))⟩
set_option maxRecDepth 100000 in
set_option maxHeartbeats 8000000 in
theorem rmf2_0 (s bo sq st ds ta tb wh wn x y a b d : Int) (g1 : nodeB s = true) (g2 : inFB bo 65535 = true) (g3 : inFB sq 65535 = true) (g4 : inFB st 1000000 = true)  (e0 : nodeB ds = false) (w : World) :
    Calls Try.prog 11 #[frC 2 s bo sq st ds ta tb wh wn x y a b d] w fun e w' => e = .returned (.bool false) ∧ Below w.heap.size w w' := by
  go_enter Try.func11, Try.ntmps11
  go_wp2_with (first | (go_at_call 22; refine Calls.mono (rid_v _ _ (by assumption) _) ?_; rintro e w1 ⟨rfl, rfl⟩) | (go_at_call 23; refine Calls.mono (rser_v _ _ (by assumption) _) ?_; rintro e w1 ⟨rfl, rfl⟩) | (go_at_call 24; refine Calls.mono (rtime_v _ _ (by assumption) _) ?_; rintro e w1 ⟨rfl, rfl⟩) | (go_at_call 25; refine Calls.mono (rfine_v _ _ (by assumption) _) ?_; rintro e w1 ⟨rfl, rfl⟩) | (go_at_call 26; refine Calls.mono (rmark_v _ _ (by assumption) _) ?_; rintro e w1 ⟨rfl, rfl⟩))
  go_ret
  exact ⟨rfl, (by repeat (first | with_reducible exact Below.refl _ _ | with_reducible exact Below_of_hid (by assumption) | with_reducible refine Below.drew ?_ | with_reducible refine below_drewN ?_ _ | (with_reducible refine Below_putRow ?_ ?hB _ _; case hB => (first | omega | (simp; done) | (simp; omega))) | (with_reducible refine Below.alloc ?_ ?hB _; case hB => (first | omega | (simp; done) | (simp; omega))) | (with_reducible refine Below.setCell ?_ ?hB _; case hB => (first | omega | (simp; done) | (simp; omega))) | (with_reducible refine Below.trans ?_ (Below.mono (by assumption) ?hB); case hB => (first | omega | (simp; done) | (simp; omega)))))⟩
set_option maxRecDepth 100000 in
set_option maxHeartbeats 8000000 in
theorem rmf2_1 (s bo sq st ds ta tb wh wn x y a b d : Int) (g1 : nodeB s = true) (g2 : inFB bo 65535 = true) (g3 : inFB sq 65535 = true) (g4 : inFB st 1000000 = true)  (e0 : nodeB ds = true) (e1 : ds = s) (w : World) :
    Calls Try.prog 11 #[frC 2 s bo sq st ds ta tb wh wn x y a b d] w fun e w' => e = .returned (.bool false) ∧ Below w.heap.size w w' := by
  go_enter Try.func11, Try.ntmps11
  go_wp2_with (first | (go_at_call 22; refine Calls.mono (rid_v _ _ (by assumption) _) ?_; rintro e w1 ⟨rfl, rfl⟩) | (go_at_call 23; refine Calls.mono (rser_v _ _ (by assumption) _) ?_; rintro e w1 ⟨rfl, rfl⟩) | (go_at_call 24; refine Calls.mono (rtime_v _ _ (by assumption) _) ?_; rintro e w1 ⟨rfl, rfl⟩) | (go_at_call 25; refine Calls.mono (rfine_v _ _ (by assumption) _) ?_; rintro e w1 ⟨rfl, rfl⟩) | (go_at_call 26; refine Calls.mono (rmark_v _ _ (by assumption) _) ?_; rintro e w1 ⟨rfl, rfl⟩))
  go_ret
  exact ⟨rfl, (by repeat (first | with_reducible exact Below.refl _ _ | with_reducible exact Below_of_hid (by assumption) | with_reducible refine Below.drew ?_ | with_reducible refine below_drewN ?_ _ | (with_reducible refine Below_putRow ?_ ?hB _ _; case hB => (first | omega | (simp; done) | (simp; omega))) | (with_reducible refine Below.alloc ?_ ?hB _; case hB => (first | omega | (simp; done) | (simp; omega))) | (with_reducible refine Below.setCell ?_ ?hB _; case hB => (first | omega | (simp; done) | (simp; omega))) | (with_reducible refine Below.trans ?_ (Below.mono (by assumption) ?hB); case hB => (first | omega | (simp; done) | (simp; omega)))))⟩
set_option maxRecDepth 100000 in
set_option maxHeartbeats 8000000 in
theorem rmf2_t (s bo sq st ds ta tb wh wn x y a b d : Int) (g1 : nodeB s = true) (g2 : inFB bo 65535 = true) (g3 : inFB sq 65535 = true) (g4 : inFB st 1000000 = true)  (e0 : nodeB ds = true) (e1 : ¬ ds = s) (w : World) :
    Calls Try.prog 11 #[frC 2 s bo sq st ds ta tb wh wn x y a b d] w fun e w' => e = .returned (.bool (decide ((⟨2, s, bo, sq, st, ds, ta, tb, wh, wn, x, y, a, b, d⟩ : FrD) = ⟨2, s, bo, sq, st, ds, 0, 0, 0, 0, 0, 0, 0, 0, 0⟩))) ∧ Below w.heap.size w w' := by
  go_enter Try.func11, Try.ntmps11
  obtain ⟨E, hE⟩ : ∃ z, decide ((⟨2, s, bo, sq, st, ds, ta, tb, wh, wn, x, y, a, b, d⟩ : FrD) = ⟨2, s, bo, sq, st, ds, 0, 0, 0, 0, 0, 0, 0, 0, 0⟩) = z := ⟨_, rfl⟩
  rw [hE]
  have q5 : ∀ w' : World, Sem.run Try.prog (binOp .eql 29 (frC 2 s bo sq st ds ta tb wh wn x y a b d) (frC 2 s bo sq st ds 0 0 0 0 0 0 0 0 0)) w' = .ok (.bool E) w' := fun w' => by rw [← hE]; exact eql_fr 2 s bo sq st ds ta tb wh wn x y a b d 2 s bo sq st ds 0 0 0 0 0 0 0 0 0 w'
  have q6 : ∀ (p q : Operand) (w' : World), Sem.run Try.prog (eqGuard .eql 29 p q (frC 2 s bo sq st ds ta tb wh wn x y a b d) (frC 2 s bo sq st ds 0 0 0 0 0 0 0 0 0)) w' = .ok () w' := fun p q w' => eqg_fr .eql p q ⟨2, s, bo, sq, st, ds, ta, tb, wh, wn, x, y, a, b, d⟩ ⟨2, s, bo, sq, st, ds, 0, 0, 0, 0, 0, 0, 0, 0, 0⟩ w'
  clear hE
  go_wp2_with (first | (go_at_call 22; refine Calls.mono (rid_v _ _ (by assumption) _) ?_; rintro e w1 ⟨rfl, rfl⟩) | (go_at_call 23; refine Calls.mono (rser_v _ _ (by assumption) _) ?_; rintro e w1 ⟨rfl, rfl⟩) | (go_at_call 24; refine Calls.mono (rtime_v _ _ (by assumption) _) ?_; rintro e w1 ⟨rfl, rfl⟩) | (go_at_call 25; refine Calls.mono (rfine_v _ _ (by assumption) _) ?_; rintro e w1 ⟨rfl, rfl⟩) | (go_at_call 26; refine Calls.mono (rmark_v _ _ (by assumption) _) ?_; rintro e w1 ⟨rfl, rfl⟩))
  go_ret
  exact ⟨rfl, (by repeat (first | with_reducible exact Below.refl _ _ | with_reducible exact Below_of_hid (by assumption) | with_reducible refine Below.drew ?_ | with_reducible refine below_drewN ?_ _ | (with_reducible refine Below_putRow ?_ ?hB _ _; case hB => (first | omega | (simp; done) | (simp; omega))) | (with_reducible refine Below.alloc ?_ ?hB _; case hB => (first | omega | (simp; done) | (simp; omega))) | (with_reducible refine Below.setCell ?_ ?hB _; case hB => (first | omega | (simp; done) | (simp; omega))) | (with_reducible refine Below.trans ?_ (Below.mono (by assumption) ?hB); case hB => (first | omega | (simp; done) | (simp; omega)))))⟩
set_option maxRecDepth 100000 in
set_option maxHeartbeats 8000000 in
theorem rmf3_0 (s bo sq st ds ta tb wh wn x y a b d : Int) (g1 : nodeB s = true) (g2 : inFB bo 65535 = true) (g3 : inFB sq 65535 = true) (g4 : inFB st 1000000 = true)  (e0 : nodeB ds = false) (w : World) :
    Calls Try.prog 11 #[frC 3 s bo sq st ds ta tb wh wn x y a b d] w fun e w' => e = .returned (.bool false) ∧ Below w.heap.size w w' := by
  go_enter Try.func11, Try.ntmps11
  go_wp2_with (first | (go_at_call 22; refine Calls.mono (rid_v _ _ (by assumption) _) ?_; rintro e w1 ⟨rfl, rfl⟩) | (go_at_call 23; refine Calls.mono (rser_v _ _ (by assumption) _) ?_; rintro e w1 ⟨rfl, rfl⟩) | (go_at_call 24; refine Calls.mono (rtime_v _ _ (by assumption) _) ?_; rintro e w1 ⟨rfl, rfl⟩) | (go_at_call 25; refine Calls.mono (rfine_v _ _ (by assumption) _) ?_; rintro e w1 ⟨rfl, rfl⟩) | (go_at_call 26; refine Calls.mono (rmark_v _ _ (by assumption) _) ?_; rintro e w1 ⟨rfl, rfl⟩))
  go_ret
  exact ⟨rfl, (by repeat (first | with_reducible exact Below.refl _ _ | with_reducible exact Below_of_hid (by assumption) | with_reducible refine Below.drew ?_ | with_reducible refine below_drewN ?_ _ | (with_reducible refine Below_putRow ?_ ?hB _ _; case hB => (first | omega | (simp; done) | (simp; omega))) | (with_reducible refine Below.alloc ?_ ?hB _; case hB => (first | omega | (simp; done) | (simp; omega))) | (with_reducible refine Below.setCell ?_ ?hB _; case hB => (first | omega | (simp; done) | (simp; omega))) | (with_reducible refine Below.trans ?_ (Below.mono (by assumption) ?hB); case hB => (first | omega | (simp; done) | (simp; omega)))))⟩
set_option maxRecDepth 100000 in
set_option maxHeartbeats 8000000 in
theorem rmf3_1 (s bo sq st ds ta tb wh wn x y a b d : Int) (g1 : nodeB s = true) (g2 : inFB bo 65535 = true) (g3 : inFB sq 65535 = true) (g4 : inFB st 1000000 = true)  (e0 : nodeB ds = true) (e1 : ds = s) (w : World) :
    Calls Try.prog 11 #[frC 3 s bo sq st ds ta tb wh wn x y a b d] w fun e w' => e = .returned (.bool false) ∧ Below w.heap.size w w' := by
  go_enter Try.func11, Try.ntmps11
  go_wp2_with (first | (go_at_call 22; refine Calls.mono (rid_v _ _ (by assumption) _) ?_; rintro e w1 ⟨rfl, rfl⟩) | (go_at_call 23; refine Calls.mono (rser_v _ _ (by assumption) _) ?_; rintro e w1 ⟨rfl, rfl⟩) | (go_at_call 24; refine Calls.mono (rtime_v _ _ (by assumption) _) ?_; rintro e w1 ⟨rfl, rfl⟩) | (go_at_call 25; refine Calls.mono (rfine_v _ _ (by assumption) _) ?_; rintro e w1 ⟨rfl, rfl⟩) | (go_at_call 26; refine Calls.mono (rmark_v _ _ (by assumption) _) ?_; rintro e w1 ⟨rfl, rfl⟩))
  go_ret
  exact ⟨rfl, (by repeat (first | with_reducible exact Below.refl _ _ | with_reducible exact Below_of_hid (by assumption) | with_reducible refine Below.drew ?_ | with_reducible refine below_drewN ?_ _ | (with_reducible refine Below_putRow ?_ ?hB _ _; case hB => (first | omega | (simp; done) | (simp; omega))) | (with_reducible refine Below.alloc ?_ ?hB _; case hB => (first | omega | (simp; done) | (simp; omega))) | (with_reducible refine Below.setCell ?_ ?hB _; case hB => (first | omega | (simp; done) | (simp; omega))) | (with_reducible refine Below.trans ?_ (Below.mono (by assumption) ?hB); case hB => (first | omega | (simp; done) | (simp; omega)))))⟩
set_option maxRecDepth 100000 in
set_option maxHeartbeats 8000000 in
theorem rmf3_2 (s bo sq st ds ta tb wh wn x y a b d : Int) (g1 : nodeB s = true) (g2 : inFB bo 65535 = true) (g3 : inFB sq 65535 = true) (g4 : inFB st 1000000 = true)  (e0 : nodeB ds = true) (e1 : ¬ ds = s) (e2 : inFB ta 4294967295 = false) (w : World) :
    Calls Try.prog 11 #[frC 3 s bo sq st ds ta tb wh wn x y a b d] w fun e w' => e = .returned (.bool false) ∧ Below w.heap.size w w' := by
  go_enter Try.func11, Try.ntmps11
  go_wp2_with (first | (go_at_call 22; refine Calls.mono (rid_v _ _ (by assumption) _) ?_; rintro e w1 ⟨rfl, rfl⟩) | (go_at_call 23; refine Calls.mono (rser_v _ _ (by assumption) _) ?_; rintro e w1 ⟨rfl, rfl⟩) | (go_at_call 24; refine Calls.mono (rtime_v _ _ (by assumption) _) ?_; rintro e w1 ⟨rfl, rfl⟩) | (go_at_call 25; refine Calls.mono (rfine_v _ _ (by assumption) _) ?_; rintro e w1 ⟨rfl, rfl⟩) | (go_at_call 26; refine Calls.mono (rmark_v _ _ (by assumption) _) ?_; rintro e w1 ⟨rfl, rfl⟩))
  go_ret
  exact ⟨rfl, (by repeat (first | with_reducible exact Below.refl _ _ | with_reducible exact Below_of_hid (by assumption) | with_reducible refine Below.drew ?_ | with_reducible refine below_drewN ?_ _ | (with_reducible refine Below_putRow ?_ ?hB _ _; case hB => (first | omega | (simp; done) | (simp; omega))) | (with_reducible refine Below.alloc ?_ ?hB _; case hB => (first | omega | (simp; done) | (simp; omega))) | (with_reducible refine Below.setCell ?_ ?hB _; case hB => (first | omega | (simp; done) | (simp; omega))) | (with_reducible refine Below.trans ?_ (Below.mono (by assumption) ?hB); case hB => (first | omega | (simp; done) | (simp; omega)))))⟩
set_option maxRecDepth 100000 in
set_option maxHeartbeats 8000000 in
theorem rmf3_t (s bo sq st ds ta tb wh wn x y a b d : Int) (g1 : nodeB s = true) (g2 : inFB bo 65535 = true) (g3 : inFB sq 65535 = true) (g4 : inFB st 1000000 = true)  (e0 : nodeB ds = true) (e1 : ¬ ds = s) (e2 : inFB ta 4294967295 = true) (w : World) :
    Calls Try.prog 11 #[frC 3 s bo sq st ds ta tb wh wn x y a b d] w fun e w' => e = .returned (.bool (decide ((⟨3, s, bo, sq, st, ds, ta, tb, wh, wn, x, y, a, b, d⟩ : FrD) = ⟨3, s, bo, sq, st, ds, ta, 0, 0, 0, 0, 0, 0, 0, 0⟩))) ∧ Below w.heap.size w w' := by
  go_enter Try.func11, Try.ntmps11
  obtain ⟨E, hE⟩ : ∃ z, decide ((⟨3, s, bo, sq, st, ds, ta, tb, wh, wn, x, y, a, b, d⟩ : FrD) = ⟨3, s, bo, sq, st, ds, ta, 0, 0, 0, 0, 0, 0, 0, 0⟩) = z := ⟨_, rfl⟩
  rw [hE]
  have q5 : ∀ w' : World, Sem.run Try.prog (binOp .eql 29 (frC 3 s bo sq st ds ta tb wh wn x y a b d) (frC 3 s bo sq st ds ta 0 0 0 0 0 0 0 0)) w' = .ok (.bool E) w' := fun w' => by rw [← hE]; exact eql_fr 3 s bo sq st ds ta tb wh wn x y a b d 3 s bo sq st ds ta 0 0 0 0 0 0 0 0 w'
  have q6 : ∀ (p q : Operand) (w' : World), Sem.run Try.prog (eqGuard .eql 29 p q (frC 3 s bo sq st ds ta tb wh wn x y a b d) (frC 3 s bo sq st ds ta 0 0 0 0 0 0 0 0)) w' = .ok () w' := fun p q w' => eqg_fr .eql p q ⟨3, s, bo, sq, st, ds, ta, tb, wh, wn, x, y, a, b, d⟩ ⟨3, s, bo, sq, st, ds, ta, 0, 0, 0, 0, 0, 0, 0, 0⟩ w'
  clear hE
  go_wp2_with (first | (go_at_call 22; refine Calls.mono (rid_v _ _ (by assumption) _) ?_; rintro e w1 ⟨rfl, rfl⟩) | (go_at_call 23; refine Calls.mono (rser_v _ _ (by assumption) _) ?_; rintro e w1 ⟨rfl, rfl⟩) | (go_at_call 24; refine Calls.mono (rtime_v _ _ (by assumption) _) ?_; rintro e w1 ⟨rfl, rfl⟩) | (go_at_call 25; refine Calls.mono (rfine_v _ _ (by assumption) _) ?_; rintro e w1 ⟨rfl, rfl⟩) | (go_at_call 26; refine Calls.mono (rmark_v _ _ (by assumption) _) ?_; rintro e w1 ⟨rfl, rfl⟩))
  go_ret
  exact ⟨rfl, (by repeat (first | with_reducible exact Below.refl _ _ | with_reducible exact Below_of_hid (by assumption) | with_reducible refine Below.drew ?_ | with_reducible refine below_drewN ?_ _ | (with_reducible refine Below_putRow ?_ ?hB _ _; case hB => (first | omega | (simp; done) | (simp; omega))) | (with_reducible refine Below.alloc ?_ ?hB _; case hB => (first | omega | (simp; done) | (simp; omega))) | (with_reducible refine Below.setCell ?_ ?hB _; case hB => (first | omega | (simp; done) | (simp; omega))) | (with_reducible refine Below.trans ?_ (Below.mono (by assumption) ?hB); case hB => (first | omega | (simp; done) | (simp; omega)))))⟩
end Go.Proofs.Ytdipecepgfaokaa
