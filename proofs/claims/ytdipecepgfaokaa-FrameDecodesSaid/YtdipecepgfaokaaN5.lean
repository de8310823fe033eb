/- The walk of frame.May. -/
import Derived.Test.YtdipecepgfaokaaN4a
import Derived.Test.YtdipecepgfaokaaN4b
import Derived.Test.YtdipecepgfaokaaN4c
import Derived.Test.YtdipecepgfaokaaN4d
namespace Go.Proofs.Ytdipecepgfaokaa
set_option linter.unusedSimpArgs false
set_option linter.unusedVariables false
open Go.RowKit

/-- May a frame be? -/
def mayF (f : FrD) : Bool :=
  (restF f).2 && (nodeB f.src && (inFB f.boot 65535 && (inFB f.seq 65535 && (inFB f.stamp 1000000 && (decide ((restF f).1.dst = 0) && (decide ((restF f).1.t1 = 0) && (decide ((restF f).1.t2 = 0) && (decide ((restF f).1.who = 0) && (decide ((restF f).1.when = 0) &&
    decide ((restF f).1.x = 0 ∧ (restF f).1.y = 0 ∧ (restF f).1.a = 0 ∧ (restF f).1.b = 0 ∧ (restF f).1.d = 0))))))))))
set_option maxHeartbeats 2000000 in
theorem rest_v (f g : FrD) (ok : Bool) (h : restF f = (g, ok)) (w : World) :
    Calls Try.prog 19 #[frV f] w fun e w' => e = .returned (.tuple #[frV g, .bool ok]) ∧ Below w.heap.size w w' := by
  obtain ⟨k, s, bo, sq, st, ds, ta, tb, wh, wn, x, y, a, b, d⟩ := f
  unfold restF at h
  simp only [FrD.el] at h
  by_cases h1 : k = 1
  · subst h1; simp only [true_or, if_true, Prod.mk.injEq] at h; obtain ⟨rfl, rfl⟩ := h; exact rest_1 _ _ _ _ _ _ _ _ _ _ _ _ _ _ _
  by_cases h7 : k = 7
  · subst h7; simp only [or_true, if_true, Prod.mk.injEq] at h; obtain ⟨rfl, rfl⟩ := h; exact rest_7 _ _ _ _ _ _ _ _ _ _ _ _ _ _ _
  rw [if_neg (by omega)] at h
  by_cases h2 : k = 2
  · subst h2; rw [if_pos rfl, Prod.mk.injEq] at h; obtain ⟨rfl, h⟩ := h; exact rest_2 _ _ _ _ _ _ _ _ _ _ _ _ _ _ _ h _
  rw [if_neg h2] at h
  by_cases h3 : k = 3
  · subst h3; rw [if_pos rfl, Prod.mk.injEq] at h; obtain ⟨rfl, h⟩ := h; exact rest_3 _ _ _ _ _ _ _ _ _ _ _ _ _ _ _ h _
  rw [if_neg h3] at h
  by_cases h4 : k = 4
  · subst h4; rw [if_pos rfl, Prod.mk.injEq] at h; obtain ⟨rfl, h⟩ := h; exact rest_4 _ _ _ _ _ _ _ _ _ _ _ _ _ _ _ h _
  rw [if_neg h4] at h
  by_cases h5 : k = 5
  · subst h5; rw [if_pos rfl, Prod.mk.injEq] at h; obtain ⟨rfl, h⟩ := h; exact rest_5 _ _ _ _ _ _ _ _ _ _ _ _ _ _ _ h _
  rw [if_neg h5] at h
  by_cases h6 : k = 6
  · subst h6; rw [if_pos rfl, Prod.mk.injEq] at h; obtain ⟨rfl, h⟩ := h; exact rest_6 _ _ _ _ _ _ _ _ _ _ _ _ _ _ _ h _
  rw [if_neg h6, Prod.mk.injEq] at h
  obtain ⟨rfl, rfl⟩ := h
  exact rest_8 _ _ _ _ _ _ _ _ _ _ _ _ _ _ _ h1 h2 h3 h4 h5 h6 h7 _
set_option maxRecDepth 100000 in
set_option maxHeartbeats 4000000 in
theorem framemay_c (k s bo sq st ds ta tb wh wn x y a b d : Int) (w : World) :
    Calls Try.prog 10 #[frC k s bo sq st ds ta tb wh wn x y a b d] w fun e w' => e = .returned (.bool (mayF ⟨k, s, bo, sq, st, ds, ta, tb, wh, wn, x, y, a, b, d⟩)) ∧ Below w.heap.size w w' := by
  obtain ⟨p1, g1⟩ : ∃ q, nodeB s = q := ⟨_, rfl⟩
  obtain ⟨p2, g2⟩ : ∃ q, inFB bo 65535 = q := ⟨_, rfl⟩
  obtain ⟨p3, g3⟩ : ∃ q, inFB sq 65535 = q := ⟨_, rfl⟩
  obtain ⟨p4, g4⟩ : ∃ q, inFB st 1000000 = q := ⟨_, rfl⟩
  obtain ⟨zz, hz⟩ : ∃ z, restF ⟨k, s, bo, sq, st, ds, ta, tb, wh, wn, x, y, a, b, d⟩ = z := ⟨_, rfl⟩
  obtain ⟨⟨k', s', bo', sq', st', ds', ta', tb', wh', wn', x', y', a', b', d'⟩, ok⟩ := zz
  have E : mayF ⟨k, s, bo, sq, st, ds, ta, tb, wh, wn, x, y, a, b, d⟩ = (ok && (p1 && (p2 && (p3 && (p4 && (decide (ds' = 0) && (decide (ta' = 0) && (decide (tb' = 0) && (decide (wh' = 0) && (decide (wn' = 0) && decide (x' = 0 ∧ y' = 0 ∧ a' = 0 ∧ b' = 0 ∧ d' = 0))))))))))) := by
    unfold mayF; rw [hz, g1, g2, g3, g4]
  have HZ := Lib.hid hz
  clear hz
  cases ok
  · have EV : Hid (mayF ⟨k, s, bo, sq, st, ds, ta, tb, wh, wn, x, y, a, b, d⟩ = false) := by show _ = _; rw [E]; simp
    clear E
    go_enter Try.func10, Try.ntmps10
    go_wp2_with fail
    refine Calls.mono (rest_v ⟨k, s, bo, sq, st, ds, ta, tb, wh, wn, x, y, a, b, d⟩ _ _ HZ.out _) ?_; rintro e w1 ⟨rfl, hb1⟩; have z_w1 := hb1.size; (try simp at z_w1); obtain ⟨y_w1_0_0, c_w1_0_0, f_w1_0_0, r_w1_0_0, t_w1_0_0, p_w1_0_0⟩ := bk hb1 (w.heap.size) (by first | omega | (simp; done) | (simp; omega) | fail)
    go_wp2_with (first | (go_at_call 20; refine Calls.mono (node_v _ _ (by assumption) _) ?_; rintro e w2 ⟨rfl, rfl⟩) | (go_at_call 21; refine Calls.mono (in_v _ _ _ (by assumption) _) ?_; rintro e w2 ⟨rfl, rfl⟩))
    go_ret
    exact ⟨by rw [EV.out]; rfl, (by repeat (first | with_reducible exact Below.refl _ _ | with_reducible exact Below_of_hid (by assumption) | with_reducible refine Below.drew ?_ | with_reducible refine below_drewN ?_ _ | (with_reducible refine Below_putRow ?_ ?hB _ _; case hB => (first | omega | (simp; done) | (simp; omega))) | (with_reducible refine Below.alloc ?_ ?hB _; case hB => (first | omega | (simp; done) | (simp; omega))) | (with_reducible refine Below.setCell ?_ ?hB _; case hB => (first | omega | (simp; done) | (simp; omega))) | (with_reducible refine Below.trans ?_ (Below.mono (by assumption) ?hB); case hB => (first | omega | (simp; done) | (simp; omega)))))⟩
  cases p1
  · have EV : Hid (mayF ⟨k, s, bo, sq, st, ds, ta, tb, wh, wn, x, y, a, b, d⟩ = false) := by show _ = _; rw [E]; simp
    clear E
    go_enter Try.func10, Try.ntmps10
    go_wp2_with fail
    refine Calls.mono (rest_v ⟨k, s, bo, sq, st, ds, ta, tb, wh, wn, x, y, a, b, d⟩ _ _ HZ.out _) ?_; rintro e w1 ⟨rfl, hb1⟩; have z_w1 := hb1.size; (try simp at z_w1); obtain ⟨y_w1_0_0, c_w1_0_0, f_w1_0_0, r_w1_0_0, t_w1_0_0, p_w1_0_0⟩ := bk hb1 (w.heap.size) (by first | omega | (simp; done) | (simp; omega) | fail)
    go_wp2_with (first | (go_at_call 20; refine Calls.mono (node_v _ _ (by assumption) _) ?_; rintro e w2 ⟨rfl, rfl⟩) | (go_at_call 21; refine Calls.mono (in_v _ _ _ (by assumption) _) ?_; rintro e w2 ⟨rfl, rfl⟩))
    go_ret
    exact ⟨by rw [EV.out]; rfl, (by repeat (first | with_reducible exact Below.refl _ _ | with_reducible exact Below_of_hid (by assumption) | with_reducible refine Below.drew ?_ | with_reducible refine below_drewN ?_ _ | (with_reducible refine Below_putRow ?_ ?hB _ _; case hB => (first | omega | (simp; done) | (simp; omega))) | (with_reducible refine Below.alloc ?_ ?hB _; case hB => (first | omega | (simp; done) | (simp; omega))) | (with_reducible refine Below.setCell ?_ ?hB _; case hB => (first | omega | (simp; done) | (simp; omega))) | (with_reducible refine Below.trans ?_ (Below.mono (by assumption) ?hB); case hB => (first | omega | (simp; done) | (simp; omega)))))⟩
  cases p2
  · have EV : Hid (mayF ⟨k, s, bo, sq, st, ds, ta, tb, wh, wn, x, y, a, b, d⟩ = false) := by show _ = _; rw [E]; simp
    clear E
    go_enter Try.func10, Try.ntmps10
    go_wp2_with fail
    refine Calls.mono (rest_v ⟨k, s, bo, sq, st, ds, ta, tb, wh, wn, x, y, a, b, d⟩ _ _ HZ.out _) ?_; rintro e w1 ⟨rfl, hb1⟩; have z_w1 := hb1.size; (try simp at z_w1); obtain ⟨y_w1_0_0, c_w1_0_0, f_w1_0_0, r_w1_0_0, t_w1_0_0, p_w1_0_0⟩ := bk hb1 (w.heap.size) (by first | omega | (simp; done) | (simp; omega) | fail)
    go_wp2_with (first | (go_at_call 20; refine Calls.mono (node_v _ _ (by assumption) _) ?_; rintro e w2 ⟨rfl, rfl⟩) | (go_at_call 21; refine Calls.mono (in_v _ _ _ (by assumption) _) ?_; rintro e w2 ⟨rfl, rfl⟩))
    go_ret
    exact ⟨by rw [EV.out]; rfl, (by repeat (first | with_reducible exact Below.refl _ _ | with_reducible exact Below_of_hid (by assumption) | with_reducible refine Below.drew ?_ | with_reducible refine below_drewN ?_ _ | (with_reducible refine Below_putRow ?_ ?hB _ _; case hB => (first | omega | (simp; done) | (simp; omega))) | (with_reducible refine Below.alloc ?_ ?hB _; case hB => (first | omega | (simp; done) | (simp; omega))) | (with_reducible refine Below.setCell ?_ ?hB _; case hB => (first | omega | (simp; done) | (simp; omega))) | (with_reducible refine Below.trans ?_ (Below.mono (by assumption) ?hB); case hB => (first | omega | (simp; done) | (simp; omega)))))⟩
  cases p3
  · have EV : Hid (mayF ⟨k, s, bo, sq, st, ds, ta, tb, wh, wn, x, y, a, b, d⟩ = false) := by show _ = _; rw [E]; simp
    clear E
    go_enter Try.func10, Try.ntmps10
    go_wp2_with fail
    refine Calls.mono (rest_v ⟨k, s, bo, sq, st, ds, ta, tb, wh, wn, x, y, a, b, d⟩ _ _ HZ.out _) ?_; rintro e w1 ⟨rfl, hb1⟩; have z_w1 := hb1.size; (try simp at z_w1); obtain ⟨y_w1_0_0, c_w1_0_0, f_w1_0_0, r_w1_0_0, t_w1_0_0, p_w1_0_0⟩ := bk hb1 (w.heap.size) (by first | omega | (simp; done) | (simp; omega) | fail)
    go_wp2_with (first | (go_at_call 20; refine Calls.mono (node_v _ _ (by assumption) _) ?_; rintro e w2 ⟨rfl, rfl⟩) | (go_at_call 21; refine Calls.mono (in_v _ _ _ (by assumption) _) ?_; rintro e w2 ⟨rfl, rfl⟩))
    go_ret
    exact ⟨by rw [EV.out]; rfl, (by repeat (first | with_reducible exact Below.refl _ _ | with_reducible exact Below_of_hid (by assumption) | with_reducible refine Below.drew ?_ | with_reducible refine below_drewN ?_ _ | (with_reducible refine Below_putRow ?_ ?hB _ _; case hB => (first | omega | (simp; done) | (simp; omega))) | (with_reducible refine Below.alloc ?_ ?hB _; case hB => (first | omega | (simp; done) | (simp; omega))) | (with_reducible refine Below.setCell ?_ ?hB _; case hB => (first | omega | (simp; done) | (simp; omega))) | (with_reducible refine Below.trans ?_ (Below.mono (by assumption) ?hB); case hB => (first | omega | (simp; done) | (simp; omega)))))⟩
  cases p4
  · have EV : Hid (mayF ⟨k, s, bo, sq, st, ds, ta, tb, wh, wn, x, y, a, b, d⟩ = false) := by show _ = _; rw [E]; simp
    clear E
    go_enter Try.func10, Try.ntmps10
    go_wp2_with fail
    refine Calls.mono (rest_v ⟨k, s, bo, sq, st, ds, ta, tb, wh, wn, x, y, a, b, d⟩ _ _ HZ.out _) ?_; rintro e w1 ⟨rfl, hb1⟩; have z_w1 := hb1.size; (try simp at z_w1); obtain ⟨y_w1_0_0, c_w1_0_0, f_w1_0_0, r_w1_0_0, t_w1_0_0, p_w1_0_0⟩ := bk hb1 (w.heap.size) (by first | omega | (simp; done) | (simp; omega) | fail)
    go_wp2_with (first | (go_at_call 20; refine Calls.mono (node_v _ _ (by assumption) _) ?_; rintro e w2 ⟨rfl, rfl⟩) | (go_at_call 21; refine Calls.mono (in_v _ _ _ (by assumption) _) ?_; rintro e w2 ⟨rfl, rfl⟩))
    go_ret
    exact ⟨by rw [EV.out]; rfl, (by repeat (first | with_reducible exact Below.refl _ _ | with_reducible exact Below_of_hid (by assumption) | with_reducible refine Below.drew ?_ | with_reducible refine below_drewN ?_ _ | (with_reducible refine Below_putRow ?_ ?hB _ _; case hB => (first | omega | (simp; done) | (simp; omega))) | (with_reducible refine Below.alloc ?_ ?hB _; case hB => (first | omega | (simp; done) | (simp; omega))) | (with_reducible refine Below.setCell ?_ ?hB _; case hB => (first | omega | (simp; done) | (simp; omega))) | (with_reducible refine Below.trans ?_ (Below.mono (by assumption) ?hB); case hB => (first | omega | (simp; done) | (simp; omega)))))⟩
  have EV := Lib.hid E
  clear E
  go_enter Try.func10, Try.ntmps10
  go_wp2_with fail
  refine Calls.mono (rest_v ⟨k, s, bo, sq, st, ds, ta, tb, wh, wn, x, y, a, b, d⟩ _ _ HZ.out _) ?_; rintro e w1 ⟨rfl, hb1⟩; have z_w1 := hb1.size; (try simp at z_w1); obtain ⟨y_w1_0_0, c_w1_0_0, f_w1_0_0, r_w1_0_0, t_w1_0_0, p_w1_0_0⟩ := bk hb1 (w.heap.size) (by first | omega | (simp; done) | (simp; omega) | fail)
  go_wp2_with (first | (go_at_call 20; refine Calls.mono (node_v _ _ (by assumption) _) ?_; rintro e w2 ⟨rfl, rfl⟩) | (go_at_call 21; refine Calls.mono (in_v _ _ _ (by assumption) _) ?_; rintro e w2 ⟨rfl, rfl⟩))
  all_goals go_ret
  all_goals refine ⟨?_, (by repeat (first | with_reducible exact Below.refl _ _ | with_reducible exact Below_of_hid (by assumption) | with_reducible refine Below.drew ?_ | with_reducible refine below_drewN ?_ _ | (with_reducible refine Below_putRow ?_ ?hB _ _; case hB => (first | omega | (simp; done) | (simp; omega))) | (with_reducible refine Below.alloc ?_ ?hB _; case hB => (first | omega | (simp; done) | (simp; omega))) | (with_reducible refine Below.setCell ?_ ?hB _; case hB => (first | omega | (simp; done) | (simp; omega))) | (with_reducible refine Below.trans ?_ (Below.mono (by assumption) ?hB); case hB => (first | omega | (simp; done) | (simp; omega)))))⟩
  all_goals rw [EV.out]
  all_goals clear HZ EV g1 g2 g3 g4 hb1 z_w1 y_w1_0_0 c_w1_0_0 f_w1_0_0 r_w1_0_0 t_w1_0_0 p_w1_0_0
  all_goals refine congrArg (fun z => Ending.returned (Value.bool z)) ?_
  all_goals simp [*]
theorem framemay_v (f : FrD) (m : Bool) (h : mayF f = m) (w : World) :
    Calls Try.prog 10 #[frV f] w fun e w' => e = .returned (.bool m) ∧ Below w.heap.size w w' := by
  rw [← h]; exact framemay_c _ _ _ _ _ _ _ _ _ _ _ _ _ _ _ w
end Go.Proofs.Ytdipecepgfaokaa
