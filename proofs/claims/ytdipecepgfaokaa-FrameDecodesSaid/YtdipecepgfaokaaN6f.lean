/- The walk of the document's MayFrame: kind 6. -/
import Derived.Test.YtdipecepgfaokaaN6
namespace Go.Proofs.Ytdipecepgfaokaa
set_option linter.unusedSimpArgs false
set_option linter.unusedVariables false
open Go.RowKit

set_option maxRecDepth 100000 in
set_option maxHeartbeats 8000000 in
theorem rmf6_0 (s bo sq st ds ta tb wh wn x y a b d : Int) (g1 : nodeB s = true) (g2 : inFB bo 65535 = true) (g3 : inFB sq 65535 = true) (g4 : inFB st 1000000 = true)  (e0 : nodeB wh = false) (w : World) :
    Calls Try.prog 11 #[frC 6 s bo sq st ds ta tb wh wn x y a b d] w fun e w' => e = .returned (.bool false) ∧ Below w.heap.size w w' := by
  go_enter Try.func11, Try.ntmps11
  go_upto_region 20 with (first | (go_at_call 22; refine Calls.mono (rid_v _ _ (by assumption) _) ?_; rintro e w1 ⟨rfl, rfl⟩) | (go_at_call 23; refine Calls.mono (rser_v _ _ (by assumption) _) ?_; rintro e w1 ⟨rfl, rfl⟩) | (go_at_call 24; refine Calls.mono (rtime_v _ _ (by assumption) _) ?_; rintro e w1 ⟨rfl, rfl⟩) | (go_at_call 25; refine Calls.mono (rfine_v _ _ (by assumption) _) ?_; rintro e w1 ⟨rfl, rfl⟩) | (go_at_call 26; refine Calls.mono (rmark_v _ _ (by assumption) _) ?_; rintro e w1 ⟨rfl, rfl⟩))
  go_region
  go_wp2_with (first | (go_at_call 22; refine Calls.mono (rid_v _ _ (by assumption) _) ?_; rintro e w1 ⟨rfl, rfl⟩) | (go_at_call 23; refine Calls.mono (rser_v _ _ (by assumption) _) ?_; rintro e w1 ⟨rfl, rfl⟩) | (go_at_call 24; refine Calls.mono (rtime_v _ _ (by assumption) _) ?_; rintro e w1 ⟨rfl, rfl⟩) | (go_at_call 25; refine Calls.mono (rfine_v _ _ (by assumption) _) ?_; rintro e w1 ⟨rfl, rfl⟩) | (go_at_call 26; refine Calls.mono (rmark_v _ _ (by assumption) _) ?_; rintro e w1 ⟨rfl, rfl⟩))
  go_ret
  exact ⟨rfl, (by repeat (first | with_reducible exact Below.refl _ _ | with_reducible exact Below_of_hid (by assumption) | with_reducible refine Below.drew ?_ | with_reducible refine below_drewN ?_ _ | (with_reducible refine Below_putRow ?_ ?hB _ _; case hB => (first | omega | (simp; done) | (simp; omega))) | (with_reducible refine Below.alloc ?_ ?hB _; case hB => (first | omega | (simp; done) | (simp; omega))) | (with_reducible refine Below.setCell ?_ ?hB _; case hB => (first | omega | (simp; done) | (simp; omega))) | (with_reducible refine Below.trans ?_ (Below.mono (by assumption) ?hB); case hB => (first | omega | (simp; done) | (simp; omega)))))⟩
set_option maxRecDepth 100000 in
set_option maxHeartbeats 8000000 in
theorem rmf6_1 (s bo sq st ds ta tb wh wn x y a b d : Int) (g1 : nodeB s = true) (g2 : inFB bo 65535 = true) (g3 : inFB sq 65535 = true) (g4 : inFB st 1000000 = true)  (e0 : nodeB wh = true) (e1 : wh = s) (w : World) :
    Calls Try.prog 11 #[frC 6 s bo sq st ds ta tb wh wn x y a b d] w fun e w' => e = .returned (.bool false) ∧ Below w.heap.size w w' := by
  go_enter Try.func11, Try.ntmps11
  go_upto_region 20 with (first | (go_at_call 22; refine Calls.mono (rid_v _ _ (by assumption) _) ?_; rintro e w1 ⟨rfl, rfl⟩) | (go_at_call 23; refine Calls.mono (rser_v _ _ (by assumption) _) ?_; rintro e w1 ⟨rfl, rfl⟩) | (go_at_call 24; refine Calls.mono (rtime_v _ _ (by assumption) _) ?_; rintro e w1 ⟨rfl, rfl⟩) | (go_at_call 25; refine Calls.mono (rfine_v _ _ (by assumption) _) ?_; rintro e w1 ⟨rfl, rfl⟩) | (go_at_call 26; refine Calls.mono (rmark_v _ _ (by assumption) _) ?_; rintro e w1 ⟨rfl, rfl⟩))
  go_region
  go_wp2_with (first | (go_at_call 22; refine Calls.mono (rid_v _ _ (by assumption) _) ?_; rintro e w1 ⟨rfl, rfl⟩) | (go_at_call 23; refine Calls.mono (rser_v _ _ (by assumption) _) ?_; rintro e w1 ⟨rfl, rfl⟩) | (go_at_call 24; refine Calls.mono (rtime_v _ _ (by assumption) _) ?_; rintro e w1 ⟨rfl, rfl⟩) | (go_at_call 25; refine Calls.mono (rfine_v _ _ (by assumption) _) ?_; rintro e w1 ⟨rfl, rfl⟩) | (go_at_call 26; refine Calls.mono (rmark_v _ _ (by assumption) _) ?_; rintro e w1 ⟨rfl, rfl⟩))
  go_ret
  exact ⟨rfl, (by repeat (first | with_reducible exact Below.refl _ _ | with_reducible exact Below_of_hid (by assumption) | with_reducible refine Below.drew ?_ | with_reducible refine below_drewN ?_ _ | (with_reducible refine Below_putRow ?_ ?hB _ _; case hB => (first | omega | (simp; done) | (simp; omega))) | (with_reducible refine Below.alloc ?_ ?hB _; case hB => (first | omega | (simp; done) | (simp; omega))) | (with_reducible refine Below.setCell ?_ ?hB _; case hB => (first | omega | (simp; done) | (simp; omega))) | (with_reducible refine Below.trans ?_ (Below.mono (by assumption) ?hB); case hB => (first | omega | (simp; done) | (simp; omega)))))⟩
set_option maxRecDepth 100000 in
set_option maxHeartbeats 8000000 in
theorem rmf6_2 (s bo sq st ds ta tb wh wn x y a b d : Int) (g1 : nodeB s = true) (g2 : inFB bo 65535 = true) (g3 : inFB sq 65535 = true) (g4 : inFB st 1000000 = true)  (e0 : nodeB wh = true) (e1 : ¬ wh = s) (e2 : wn < 0) (w : World) :
    Calls Try.prog 11 #[frC 6 s bo sq st ds ta tb wh wn x y a b d] w fun e w' => e = .returned (.bool false) ∧ Below w.heap.size w w' := by
  go_enter Try.func11, Try.ntmps11
  go_upto_region 20 with (first | (go_at_call 22; refine Calls.mono (rid_v _ _ (by assumption) _) ?_; rintro e w1 ⟨rfl, rfl⟩) | (go_at_call 23; refine Calls.mono (rser_v _ _ (by assumption) _) ?_; rintro e w1 ⟨rfl, rfl⟩) | (go_at_call 24; refine Calls.mono (rtime_v _ _ (by assumption) _) ?_; rintro e w1 ⟨rfl, rfl⟩) | (go_at_call 25; refine Calls.mono (rfine_v _ _ (by assumption) _) ?_; rintro e w1 ⟨rfl, rfl⟩) | (go_at_call 26; refine Calls.mono (rmark_v _ _ (by assumption) _) ?_; rintro e w1 ⟨rfl, rfl⟩))
  go_region
  go_wp2_with (first | (go_at_call 22; refine Calls.mono (rid_v _ _ (by assumption) _) ?_; rintro e w1 ⟨rfl, rfl⟩) | (go_at_call 23; refine Calls.mono (rser_v _ _ (by assumption) _) ?_; rintro e w1 ⟨rfl, rfl⟩) | (go_at_call 24; refine Calls.mono (rtime_v _ _ (by assumption) _) ?_; rintro e w1 ⟨rfl, rfl⟩) | (go_at_call 25; refine Calls.mono (rfine_v _ _ (by assumption) _) ?_; rintro e w1 ⟨rfl, rfl⟩) | (go_at_call 26; refine Calls.mono (rmark_v _ _ (by assumption) _) ?_; rintro e w1 ⟨rfl, rfl⟩))
  go_ret
  exact ⟨rfl, (by repeat (first | with_reducible exact Below.refl _ _ | with_reducible exact Below_of_hid (by assumption) | with_reducible refine Below.drew ?_ | with_reducible refine below_drewN ?_ _ | (with_reducible refine Below_putRow ?_ ?hB _ _; case hB => (first | omega | (simp; done) | (simp; omega))) | (with_reducible refine Below.alloc ?_ ?hB _; case hB => (first | omega | (simp; done) | (simp; omega))) | (with_reducible refine Below.setCell ?_ ?hB _; case hB => (first | omega | (simp; done) | (simp; omega))) | (with_reducible refine Below.trans ?_ (Below.mono (by assumption) ?hB); case hB => (first | omega | (simp; done) | (simp; omega)))))⟩
set_option maxRecDepth 100000 in
set_option maxHeartbeats 8000000 in
theorem rmf6_3 (s bo sq st ds ta tb wh wn x y a b d : Int) (g1 : nodeB s = true) (g2 : inFB bo 65535 = true) (g3 : inFB sq 65535 = true) (g4 : inFB st 1000000 = true)  (e0 : nodeB wh = true) (e1 : ¬ wh = s) (e2 : ¬ wn < 0) (e3 : st < wn) (w : World) :
    Calls Try.prog 11 #[frC 6 s bo sq st ds ta tb wh wn x y a b d] w fun e w' => e = .returned (.bool false) ∧ Below w.heap.size w w' := by
  go_enter Try.func11, Try.ntmps11
  go_upto_region 20 with (first | (go_at_call 22; refine Calls.mono (rid_v _ _ (by assumption) _) ?_; rintro e w1 ⟨rfl, rfl⟩) | (go_at_call 23; refine Calls.mono (rser_v _ _ (by assumption) _) ?_; rintro e w1 ⟨rfl, rfl⟩) | (go_at_call 24; refine Calls.mono (rtime_v _ _ (by assumption) _) ?_; rintro e w1 ⟨rfl, rfl⟩) | (go_at_call 25; refine Calls.mono (rfine_v _ _ (by assumption) _) ?_; rintro e w1 ⟨rfl, rfl⟩) | (go_at_call 26; refine Calls.mono (rmark_v _ _ (by assumption) _) ?_; rintro e w1 ⟨rfl, rfl⟩))
  go_region
  go_wp2_with (first | (go_at_call 22; refine Calls.mono (rid_v _ _ (by assumption) _) ?_; rintro e w1 ⟨rfl, rfl⟩) | (go_at_call 23; refine Calls.mono (rser_v _ _ (by assumption) _) ?_; rintro e w1 ⟨rfl, rfl⟩) | (go_at_call 24; refine Calls.mono (rtime_v _ _ (by assumption) _) ?_; rintro e w1 ⟨rfl, rfl⟩) | (go_at_call 25; refine Calls.mono (rfine_v _ _ (by assumption) _) ?_; rintro e w1 ⟨rfl, rfl⟩) | (go_at_call 26; refine Calls.mono (rmark_v _ _ (by assumption) _) ?_; rintro e w1 ⟨rfl, rfl⟩))
  go_ret
  exact ⟨rfl, (by repeat (first | with_reducible exact Below.refl _ _ | with_reducible exact Below_of_hid (by assumption) | with_reducible refine Below.drew ?_ | with_reducible refine below_drewN ?_ _ | (with_reducible refine Below_putRow ?_ ?hB _ _; case hB => (first | omega | (simp; done) | (simp; omega))) | (with_reducible refine Below.alloc ?_ ?hB _; case hB => (first | omega | (simp; done) | (simp; omega))) | (with_reducible refine Below.setCell ?_ ?hB _; case hB => (first | omega | (simp; done) | (simp; omega))) | (with_reducible refine Below.trans ?_ (Below.mono (by assumption) ?hB); case hB => (first | omega | (simp; done) | (simp; omega)))))⟩
set_option maxRecDepth 100000 in
set_option maxHeartbeats 8000000 in
theorem rmf6_mf (s bo sq st ds ta tb wh wn x y a b d : Int) (g1 : nodeB s = true) (g2 : inFB bo 65535 = true) (g3 : inFB sq 65535 = true) (g4 : inFB st 1000000 = true)  (e0 : nodeB wh = true) (e1 : ¬ wh = s) (e2 : ¬ wn < 0) (e3 : ¬ st < wn) (hm : El.may ⟨x, y, a, b, d⟩ = false) (w : World) :
    Calls Try.prog 11 #[frC 6 s bo sq st ds ta tb wh wn x y a b d] w fun e w' => e = .returned (.bool false) ∧ Below w.heap.size w w' := by
  have HM := Lib.hid hm
  clear hm
  have gn : (wh == s) = false := by simp [e1]
  go_enter Try.func11, Try.ntmps11
  go_upto_region 20 with (first | (go_at_call 22; refine Calls.mono (rid_v _ _ (by assumption) _) ?_; rintro e w1 ⟨rfl, rfl⟩) | (go_at_call 23; refine Calls.mono (rser_v _ _ (by assumption) _) ?_; rintro e w1 ⟨rfl, rfl⟩) | (go_at_call 24; refine Calls.mono (rtime_v _ _ (by assumption) _) ?_; rintro e w1 ⟨rfl, rfl⟩) | (go_at_call 25; refine Calls.mono (rfine_v _ _ (by assumption) _) ?_; rintro e w1 ⟨rfl, rfl⟩) | (go_at_call 26; refine Calls.mono (rmark_v _ _ (by assumption) _) ?_; rintro e w1 ⟨rfl, rfl⟩))
  go_region
  go_wp2_with (first | (go_at_call 22; refine Calls.mono (rid_v _ _ (by assumption) _) ?_; rintro e w1 ⟨rfl, rfl⟩) | (go_at_call 23; refine Calls.mono (rser_v _ _ (by assumption) _) ?_; rintro e w1 ⟨rfl, rfl⟩) | (go_at_call 24; refine Calls.mono (rtime_v _ _ (by assumption) _) ?_; rintro e w1 ⟨rfl, rfl⟩) | (go_at_call 25; refine Calls.mono (rfine_v _ _ (by assumption) _) ?_; rintro e w1 ⟨rfl, rfl⟩) | (go_at_call 26; refine Calls.mono (rmark_v _ _ (by assumption) _) ?_; rintro e w1 ⟨rfl, rfl⟩))
  refine name_calls ?_; intro u0 hu0
  have HB : Hid (Below w.heap.size w u0) := by rw [hu0]; show Below w.heap.size w _; exact (by repeat (first | with_reducible exact Below.refl _ _ | with_reducible exact Below_of_hid (by assumption) | with_reducible refine Below.drew ?_ | with_reducible refine below_drewN ?_ _ | (with_reducible refine Below_putRow ?_ ?hB _ _; case hB => (first | omega | (simp; done) | (simp; omega))) | (with_reducible refine Below.alloc ?_ ?hB _; case hB => (first | omega | (simp; done) | (simp; omega))) | (with_reducible refine Below.setCell ?_ ?hB _; case hB => (first | omega | (simp; done) | (simp; omega))) | (with_reducible refine Below.trans ?_ (Below.mono (by assumption) ?hB); case hB => (first | omega | (simp; done) | (simp; omega)))))
  have B0 : Hid (Blk u0 w.heap.size #[.int .i64 6, .int .i64 s, .int .i64 bo, .int .i64 sq, .int .i64 st, .int .i64 ds, .int .i64 ta, .int .i64 tb, .int .i64 wh, .int .i64 wn, .int .i64 x, .int .i64 y, .int .i64 a, .int .i64 b, .int .i64 d] 29) := by rw [hu0]; exact ((Blk.new _ _ _).alloc _)
  have B1 : Hid (Blk u0 (w.heap.size + 1) #[.int .i64 6, .int .i64 s, .int .i64 bo, .int .i64 sq, .int .i64 st, .int .i64 0, .int .i64 0, .int .i64 0, .int .i64 wh, .int .i64 wn, .int .i64 x, .int .i64 y, .int .i64 a, .int .i64 b, .int .i64 d] 29) := by rw [hu0]; exact Blk.new' _ _ _ (by simp)
  have hs0 := B1.out.lt
  clear hu0
  refine Calls.mono (rmaye_v _ _ _ _ _ _ HM.out _) ?_; rintro e w1 ⟨rfl, hb1⟩
  replace HB := Lib.hid (HB.out.trans (hb1.mono (by omega)))
  replace B0 := Lib.hid (B0.out.keep hb1)
  replace B1 := Lib.hid (B1.out.keep hb1)
  clear hb1 hs0
  have rw0 := B0.out.row?_all 15 rfl
  have rw1 := B1.out.row?_all 15 rfl
  have l0 := B0.out.lt
  have l1 := B1.out.lt
  go_wp2_with fail
  go_ret
  exact ⟨rfl, HB.out⟩
set_option maxRecDepth 100000 in
set_option maxHeartbeats 8000000 in
theorem rmf6_mt (s bo sq st ds ta tb wh wn x y a b d : Int) (g1 : nodeB s = true) (g2 : inFB bo 65535 = true) (g3 : inFB sq 65535 = true) (g4 : inFB st 1000000 = true)  (e0 : nodeB wh = true) (e1 : ¬ wh = s) (e2 : ¬ wn < 0) (e3 : ¬ st < wn) (hm : El.may ⟨x, y, a, b, d⟩ = true) (w : World) :
    Calls Try.prog 11 #[frC 6 s bo sq st ds ta tb wh wn x y a b d] w fun e w' => e = .returned (.bool (decide ((⟨6, s, bo, sq, st, ds, ta, tb, wh, wn, x, y, a, b, d⟩ : FrD) = ⟨6, s, bo, sq, st, 0, 0, 0, wh, wn, x, y, a, b, d⟩))) ∧ Below w.heap.size w w' := by
  obtain ⟨E, hE⟩ : ∃ z, decide ((⟨6, s, bo, sq, st, ds, ta, tb, wh, wn, x, y, a, b, d⟩ : FrD) = ⟨6, s, bo, sq, st, 0, 0, 0, wh, wn, x, y, a, b, d⟩) = z := ⟨_, rfl⟩
  rw [hE]
  have q5 : ∀ w' : World, Sem.run Try.prog (binOp .eql 29 (frC 6 s bo sq st ds ta tb wh wn x y a b d) (frC 6 s bo sq st 0 0 0 wh wn x y a b d)) w' = .ok (.bool E) w' := fun w' => by rw [← hE]; exact eql_fr 6 s bo sq st ds ta tb wh wn x y a b d 6 s bo sq st 0 0 0 wh wn x y a b d w'
  have q6 : ∀ (p q : Operand) (w' : World), Sem.run Try.prog (eqGuard .eql 29 p q (frC 6 s bo sq st ds ta tb wh wn x y a b d) (frC 6 s bo sq st 0 0 0 wh wn x y a b d)) w' = .ok () w' := fun p q w' => eqg_fr .eql p q ⟨6, s, bo, sq, st, ds, ta, tb, wh, wn, x, y, a, b, d⟩ ⟨6, s, bo, sq, st, 0, 0, 0, wh, wn, x, y, a, b, d⟩ w'
  clear hE
  have HM := Lib.hid hm
  clear hm
  have gn : (wh == s) = false := by simp [e1]
  go_enter Try.func11, Try.ntmps11
  go_upto_region 20 with (first | (go_at_call 22; refine Calls.mono (rid_v _ _ (by assumption) _) ?_; rintro e w1 ⟨rfl, rfl⟩) | (go_at_call 23; refine Calls.mono (rser_v _ _ (by assumption) _) ?_; rintro e w1 ⟨rfl, rfl⟩) | (go_at_call 24; refine Calls.mono (rtime_v _ _ (by assumption) _) ?_; rintro e w1 ⟨rfl, rfl⟩) | (go_at_call 25; refine Calls.mono (rfine_v _ _ (by assumption) _) ?_; rintro e w1 ⟨rfl, rfl⟩) | (go_at_call 26; refine Calls.mono (rmark_v _ _ (by assumption) _) ?_; rintro e w1 ⟨rfl, rfl⟩))
  go_region
  go_wp2_with (first | (go_at_call 22; refine Calls.mono (rid_v _ _ (by assumption) _) ?_; rintro e w1 ⟨rfl, rfl⟩) | (go_at_call 23; refine Calls.mono (rser_v _ _ (by assumption) _) ?_; rintro e w1 ⟨rfl, rfl⟩) | (go_at_call 24; refine Calls.mono (rtime_v _ _ (by assumption) _) ?_; rintro e w1 ⟨rfl, rfl⟩) | (go_at_call 25; refine Calls.mono (rfine_v _ _ (by assumption) _) ?_; rintro e w1 ⟨rfl, rfl⟩) | (go_at_call 26; refine Calls.mono (rmark_v _ _ (by assumption) _) ?_; rintro e w1 ⟨rfl, rfl⟩))
  refine name_calls ?_; intro u0 hu0
  have HB : Hid (Below w.heap.size w u0) := by rw [hu0]; show Below w.heap.size w _; exact (by repeat (first | with_reducible exact Below.refl _ _ | with_reducible exact Below_of_hid (by assumption) | with_reducible refine Below.drew ?_ | with_reducible refine below_drewN ?_ _ | (with_reducible refine Below_putRow ?_ ?hB _ _; case hB => (first | omega | (simp; done) | (simp; omega))) | (with_reducible refine Below.alloc ?_ ?hB _; case hB => (first | omega | (simp; done) | (simp; omega))) | (with_reducible refine Below.setCell ?_ ?hB _; case hB => (first | omega | (simp; done) | (simp; omega))) | (with_reducible refine Below.trans ?_ (Below.mono (by assumption) ?hB); case hB => (first | omega | (simp; done) | (simp; omega)))))
  have B0 : Hid (Blk u0 w.heap.size #[.int .i64 6, .int .i64 s, .int .i64 bo, .int .i64 sq, .int .i64 st, .int .i64 ds, .int .i64 ta, .int .i64 tb, .int .i64 wh, .int .i64 wn, .int .i64 x, .int .i64 y, .int .i64 a, .int .i64 b, .int .i64 d] 29) := by rw [hu0]; exact ((Blk.new _ _ _).alloc _)
  have B1 : Hid (Blk u0 (w.heap.size + 1) #[.int .i64 6, .int .i64 s, .int .i64 bo, .int .i64 sq, .int .i64 st, .int .i64 0, .int .i64 0, .int .i64 0, .int .i64 wh, .int .i64 wn, .int .i64 x, .int .i64 y, .int .i64 a, .int .i64 b, .int .i64 d] 29) := by rw [hu0]; exact Blk.new' _ _ _ (by simp)
  have hs0 := B1.out.lt
  clear hu0
  refine Calls.mono (rmaye_v _ _ _ _ _ _ HM.out _) ?_; rintro e w1 ⟨rfl, hb1⟩
  replace HB := Lib.hid (HB.out.trans (hb1.mono (by omega)))
  replace B0 := Lib.hid (B0.out.keep hb1)
  replace B1 := Lib.hid (B1.out.keep hb1)
  clear hb1 hs0
  have rw0 := B0.out.row?_all 15 rfl
  have rw1 := B1.out.row?_all 15 rfl
  have l0 := B0.out.lt
  have l1 := B1.out.lt
  go_wp2_with fail
  go_ret
  exact ⟨rfl, HB.out⟩
end Go.Proofs.Ytdipecepgfaokaa
