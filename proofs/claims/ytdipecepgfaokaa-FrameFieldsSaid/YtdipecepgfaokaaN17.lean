/- The walk of alidadelaw13.FrameFields. -/
import Derived.Test.YtdipecepgfaokaaN15
namespace Go.Proofs.Ytdipecepgfaokaa
set_option linter.unusedSimpArgs false
set_option linter.unusedVariables false
open Go.RowKit

/-- The frame with a field that its kind has not. -/
def badF (f : FrD) (n : Int) : FrD :=
  if f.kind = 1 ∨ f.kind = 5 ∨ f.kind = 7 then { f with t1 := n } else if f.kind = 2 ∨ f.kind = 3 ∨ f.kind = 4 then { f with x := n } else { f with t2 := n }
theorem bad_not (f : FrD) (n : Int) (h : mayF f = true) (hn : n ≠ 0) : mayF (badF f n) = false := by
  have hk := (frr_of_may f h).kind
  have key : ∀ g : FrD, (¬ ((restF g).1.t1 = 0 ∧ (restF g).1.t2 = 0 ∧ (restF g).1.x = 0)) → mayF g = false := by
    intro g hg
    cases hm : mayF g with
    | false => rfl
    | true =>
      exfalso
      unfold mayF at hm
      simp only [Bool.and_eq_true, decide_eq_true_eq] at hm
      obtain ⟨-, -, -, -, -, -, h1, h2, -, -, hx, -⟩ := hm
      exact hg ⟨h1, h2, hx⟩
  apply key
  unfold badF
  rcases (by omega : f.kind = 1 ∨ f.kind = 2 ∨ f.kind = 3 ∨ f.kind = 4 ∨ f.kind = 5 ∨ f.kind = 6 ∨ f.kind = 7) with e | e | e | e | e | e | e
  all_goals (simp only [e]; simp [restF, e, hn])
theorem kind8 (f : FrD) : mayF { f with kind := 8 } = false := by
  unfold mayF restF
  simp
set_option maxRecDepth 100000 in
set_option maxHeartbeats 8000000 in
theorem frameFields_f (k s bo sq st ds ta tb wh wn x y a b d n : Int) (hm : mayF ⟨k, s, bo, sq, st, ds, ta, tb, wh, wn, x, y, a, b, d⟩ = false) (w : World) :
    Calls Try.prog 6 #[frC k s bo sq st ds ta tb wh wn x y a b d, .int .i64 n] w fun e w' => e = .returned (.bool true) ∧ Below w.heap.size w w' := by
  go_enter Try.func6, Try.ntmps6
  go_wp2_with fail
  refine Calls.mono (framemay_v ⟨k, s, bo, sq, st, ds, ta, tb, wh, wn, x, y, a, b, d⟩ _ hm _) ?_; rintro e w1 ⟨rfl, hb1⟩; have z_w1 := hb1.size; (try simp at z_w1); obtain ⟨y_w1_0_0, c_w1_0_0, f_w1_0_0, r_w1_0_0, t_w1_0_0, p_w1_0_0⟩ := bk hb1 (w.heap.size) (by first | omega | (simp; done) | (simp; omega) | fail)
  go_wp2_with fail
  refine Calls.mono (awake_c _) ?_; rintro e w3 ⟨rfl, hb3⟩; have z_w3 := hb3.size; (try simp at z_w3); obtain ⟨y_w3_0_0, c_w3_0_0, f_w3_0_0, r_w3_0_0, t_w3_0_0, p_w3_0_0⟩ := bk hb3 (w.heap.size) (by first | omega | (simp; done) | (simp; omega) | fail)
  go_wp2_with fail
  go_ret
  exact ⟨rfl, (by repeat (first | with_reducible exact Below.refl _ _ | with_reducible exact Below_of_hid (by assumption) | with_reducible refine Below.drew ?_ | with_reducible refine below_drewN ?_ _ | (with_reducible refine Below_putRow ?_ ?hB _ _; case hB => (first | omega | (simp; done) | (simp; omega))) | (with_reducible refine Below.alloc ?_ ?hB _; case hB => (first | omega | (simp; done) | (simp; omega))) | (with_reducible refine Below.setCell ?_ ?hB _; case hB => (first | omega | (simp; done) | (simp; omega))) | (with_reducible refine Below.trans ?_ (Below.mono (by assumption) ?hB); case hB => (first | omega | (simp; done) | (simp; omega)))))⟩
set_option maxRecDepth 100000 in
set_option maxHeartbeats 8000000 in
theorem frameFields_0 (k s bo sq st ds ta tb wh wn x y a b d : Int) (hm : mayF ⟨k, s, bo, sq, st, ds, ta, tb, wh, wn, x, y, a, b, d⟩ = true) (w : World) :
    Calls Try.prog 6 #[frC k s bo sq st ds ta tb wh wn x y a b d, .int .i64 0] w fun e w' => e = .returned (.bool true) ∧ Below w.heap.size w w' := by
  go_enter Try.func6, Try.ntmps6
  go_wp2_with fail
  refine Calls.mono (framemay_v ⟨k, s, bo, sq, st, ds, ta, tb, wh, wn, x, y, a, b, d⟩ _ hm _) ?_; rintro e w1 ⟨rfl, hb1⟩; have z_w1 := hb1.size; (try simp at z_w1); obtain ⟨y_w1_0_0, c_w1_0_0, f_w1_0_0, r_w1_0_0, t_w1_0_0, p_w1_0_0⟩ := bk hb1 (w.heap.size) (by first | omega | (simp; done) | (simp; omega) | fail)
  go_wp2_with fail
  refine Calls.mono (awake_c _) ?_; rintro e w3 ⟨rfl, hb3⟩; have z_w3 := hb3.size; (try simp at z_w3); obtain ⟨y_w3_0_0, c_w3_0_0, f_w3_0_0, r_w3_0_0, t_w3_0_0, p_w3_0_0⟩ := bk hb3 (w.heap.size) (by first | omega | (simp; done) | (simp; omega) | fail)
  go_wp2_with fail
  go_ret
  exact ⟨rfl, (by repeat (first | with_reducible exact Below.refl _ _ | with_reducible exact Below_of_hid (by assumption) | with_reducible refine Below.drew ?_ | with_reducible refine below_drewN ?_ _ | (with_reducible refine Below_putRow ?_ ?hB _ _; case hB => (first | omega | (simp; done) | (simp; omega))) | (with_reducible refine Below.alloc ?_ ?hB _; case hB => (first | omega | (simp; done) | (simp; omega))) | (with_reducible refine Below.setCell ?_ ?hB _; case hB => (first | omega | (simp; done) | (simp; omega))) | (with_reducible refine Below.trans ?_ (Below.mono (by assumption) ?hB); case hB => (first | omega | (simp; done) | (simp; omega)))))⟩
set_option maxRecDepth 100000 in
set_option maxHeartbeats 8000000 in
theorem frameFields_1 (s bo sq st ds ta tb wh wn x y a b d n : Int) (hn : n ≠ 0) (hm : mayF ⟨1, s, bo, sq, st, ds, ta, tb, wh, wn, x, y, a, b, d⟩ = true) (w : World) :
    Calls Try.prog 6 #[frC 1 s bo sq st ds ta tb wh wn x y a b d, .int .i64 n] w fun e w' => e = .returned (.bool true) ∧ Below w.heap.size w w' := by
  have hg : Hid (mayF ⟨1, s, bo, sq, st, ds, n, tb, wh, wn, x, y, a, b, d⟩ = false) := bad_not ⟨1, s, bo, sq, st, ds, ta, tb, wh, wn, x, y, a, b, d⟩ n hm hn
  have hh : Hid (mayF ⟨8, s, bo, sq, st, ds, ta, tb, wh, wn, x, y, a, b, d⟩ = false) := kind8 ⟨1, s, bo, sq, st, ds, ta, tb, wh, wn, x, y, a, b, d⟩
  have HM := Lib.hid hm
  clear hm
  go_enter Try.func6, Try.ntmps6
  go_wp2_with fail
  refine name_calls ?_; intro u0 hu0
  obtain ⟨b0, hb0⟩ : ∃ b0, b0 = w.heap.size := ⟨_, rfl⟩
  have HB : Hid (Below b0 w u0) := by rw [hu0, hb0]; show Below w.heap.size w _; exact (by repeat (first | with_reducible exact Below.refl _ _ | with_reducible exact Below_of_hid (by assumption) | with_reducible refine Below.drew ?_ | with_reducible refine below_drewN ?_ _ | (with_reducible refine Below_putRow ?_ ?hB _ _; case hB => (first | omega | (simp; done) | (simp; omega))) | (with_reducible refine Below.alloc ?_ ?hB _; case hB => (first | omega | (simp; done) | (simp; omega))) | (with_reducible refine Below.setCell ?_ ?hB _; case hB => (first | omega | (simp; done) | (simp; omega))) | (with_reducible refine Below.trans ?_ (Below.mono (by assumption) ?hB); case hB => (first | omega | (simp; done) | (simp; omega)))))
  have B0 : Hid (Blk u0 b0 #[.int .i64 1, .int .i64 s, .int .i64 bo, .int .i64 sq, .int .i64 st, .int .i64 ds, .int .i64 ta, .int .i64 tb, .int .i64 wh, .int .i64 wn, .int .i64 x, .int .i64 y, .int .i64 a, .int .i64 b, .int .i64 d] 29) := by rw [hu0, hb0]; exact Blk.new _ _ _
  rw [← hb0]
  have HB0 := Lib.hid hb0
  have hs0 := B0.out.lt
  clear hu0 hb0
  refine Calls.mono (framemay_v ⟨1, s, bo, sq, st, ds, ta, tb, wh, wn, x, y, a, b, d⟩ _ HM.out _) ?_; rintro e w1 ⟨rfl, hb1⟩
  replace HB := Lib.hid (HB.out.trans (hb1.mono (by omega)))
  replace B0 := Lib.hid (B0.out.keep hb1)
  clear hb1 hs0
  have rw0 := B0.out.row?_all 15 rfl
  have q0 : w1.cell? ⟨b0, 0, none⟩ = some (.int .i64 1) := B0.out.cell rfl
  have l0 := B0.out.lt
  go_wp2_with fail
  refine name_calls ?_; intro u1 hu1
  have B1 : Hid (Blk u1 (w1.heap.size + 1) #[.int .i64 8, .int .i64 s, .int .i64 bo, .int .i64 sq, .int .i64 st, .int .i64 ds, .int .i64 ta, .int .i64 tb, .int .i64 wh, .int .i64 wn, .int .i64 x, .int .i64 y, .int .i64 a, .int .i64 b, .int .i64 d] 29) := by rw [hu1]; exact Blk.new' _ _ _ (by simp)
  have hb1 : Below w1.heap.size w1 u1 := by rw [hu1]; exact (by repeat (first | with_reducible exact Below.refl _ _ | with_reducible exact Below_of_hid (by assumption) | with_reducible refine Below.drew ?_ | with_reducible refine below_drewN ?_ _ | (with_reducible refine Below_putRow ?_ ?hB _ _; case hB => (first | omega | (simp; done) | (simp; omega))) | (with_reducible refine Below.alloc ?_ ?hB _; case hB => (first | omega | (simp; done) | (simp; omega))) | (with_reducible refine Below.setCell ?_ ?hB _; case hB => (first | omega | (simp; done) | (simp; omega))) | (with_reducible refine Below.trans ?_ (Below.mono (by assumption) ?hB); case hB => (first | omega | (simp; done) | (simp; omega)))))
  have hs1 := B1.out.lt
  clear hu1 rw0 q0
  refine Calls.mono (framemay_v ⟨1, s, bo, sq, st, ds, n, tb, wh, wn, x, y, a, b, d⟩ _ hg.out _) ?_; rintro e w2 ⟨rfl, hb2⟩
  replace B1 := Lib.hid (B1.out.keep hb2)
  replace HB := Lib.hid ((HB.out.trans (hb1.mono (by omega))).trans (hb2.mono (by omega)))
  have hz2 := hb2.size
  clear hb1 hb2
  have rw1 := B1.out.row?_all 15 rfl
  have l1 := B1.out.lt
  go_wp2_with fail
  refine Calls.mono (framemay_v ⟨8, s, bo, sq, st, ds, ta, tb, wh, wn, x, y, a, b, d⟩ _ hh.out _) ?_; rintro e w3 ⟨rfl, hb3⟩
  have hz3 := hb3.size
  replace HB := Lib.hid (HB.out.trans (hb3.mono (by omega)))
  clear hb3 rw1
  go_wp2_with fail
  refine Calls.mono (awake_c _) ?_; rintro e w4 ⟨rfl, hb4⟩
  replace HB := Lib.hid (HB.out.trans (hb4.mono (by omega)))
  go_wp2_with fail
  go_ret
  exact ⟨rfl, by rw [← HB0.out]; exact HB.out⟩
set_option maxRecDepth 100000 in
set_option maxHeartbeats 8000000 in
theorem frameFields_2 (s bo sq st ds ta tb wh wn x y a b d n : Int) (hn : n ≠ 0) (hm : mayF ⟨2, s, bo, sq, st, ds, ta, tb, wh, wn, x, y, a, b, d⟩ = true) (w : World) :
    Calls Try.prog 6 #[frC 2 s bo sq st ds ta tb wh wn x y a b d, .int .i64 n] w fun e w' => e = .returned (.bool true) ∧ Below w.heap.size w w' := by
  have hg : Hid (mayF ⟨2, s, bo, sq, st, ds, ta, tb, wh, wn, n, y, a, b, d⟩ = false) := bad_not ⟨2, s, bo, sq, st, ds, ta, tb, wh, wn, x, y, a, b, d⟩ n hm hn
  have hh : Hid (mayF ⟨8, s, bo, sq, st, ds, ta, tb, wh, wn, x, y, a, b, d⟩ = false) := kind8 ⟨2, s, bo, sq, st, ds, ta, tb, wh, wn, x, y, a, b, d⟩
  have HM := Lib.hid hm
  clear hm
  go_enter Try.func6, Try.ntmps6
  go_wp2_with fail
  refine name_calls ?_; intro u0 hu0
  obtain ⟨b0, hb0⟩ : ∃ b0, b0 = w.heap.size := ⟨_, rfl⟩
  have HB : Hid (Below b0 w u0) := by rw [hu0, hb0]; show Below w.heap.size w _; exact (by repeat (first | with_reducible exact Below.refl _ _ | with_reducible exact Below_of_hid (by assumption) | with_reducible refine Below.drew ?_ | with_reducible refine below_drewN ?_ _ | (with_reducible refine Below_putRow ?_ ?hB _ _; case hB => (first | omega | (simp; done) | (simp; omega))) | (with_reducible refine Below.alloc ?_ ?hB _; case hB => (first | omega | (simp; done) | (simp; omega))) | (with_reducible refine Below.setCell ?_ ?hB _; case hB => (first | omega | (simp; done) | (simp; omega))) | (with_reducible refine Below.trans ?_ (Below.mono (by assumption) ?hB); case hB => (first | omega | (simp; done) | (simp; omega)))))
  have B0 : Hid (Blk u0 b0 #[.int .i64 2, .int .i64 s, .int .i64 bo, .int .i64 sq, .int .i64 st, .int .i64 ds, .int .i64 ta, .int .i64 tb, .int .i64 wh, .int .i64 wn, .int .i64 x, .int .i64 y, .int .i64 a, .int .i64 b, .int .i64 d] 29) := by rw [hu0, hb0]; exact Blk.new _ _ _
  rw [← hb0]
  have HB0 := Lib.hid hb0
  have hs0 := B0.out.lt
  clear hu0 hb0
  refine Calls.mono (framemay_v ⟨2, s, bo, sq, st, ds, ta, tb, wh, wn, x, y, a, b, d⟩ _ HM.out _) ?_; rintro e w1 ⟨rfl, hb1⟩
  replace HB := Lib.hid (HB.out.trans (hb1.mono (by omega)))
  replace B0 := Lib.hid (B0.out.keep hb1)
  clear hb1 hs0
  have rw0 := B0.out.row?_all 15 rfl
  have q0 : w1.cell? ⟨b0, 0, none⟩ = some (.int .i64 2) := B0.out.cell rfl
  have l0 := B0.out.lt
  go_wp2_with fail
  refine name_calls ?_; intro u1 hu1
  have B1 : Hid (Blk u1 (w1.heap.size + 1) #[.int .i64 8, .int .i64 s, .int .i64 bo, .int .i64 sq, .int .i64 st, .int .i64 ds, .int .i64 ta, .int .i64 tb, .int .i64 wh, .int .i64 wn, .int .i64 x, .int .i64 y, .int .i64 a, .int .i64 b, .int .i64 d] 29) := by rw [hu1]; exact Blk.new' _ _ _ (by simp)
  have hb1 : Below w1.heap.size w1 u1 := by rw [hu1]; exact (by repeat (first | with_reducible exact Below.refl _ _ | with_reducible exact Below_of_hid (by assumption) | with_reducible refine Below.drew ?_ | with_reducible refine below_drewN ?_ _ | (with_reducible refine Below_putRow ?_ ?hB _ _; case hB => (first | omega | (simp; done) | (simp; omega))) | (with_reducible refine Below.alloc ?_ ?hB _; case hB => (first | omega | (simp; done) | (simp; omega))) | (with_reducible refine Below.setCell ?_ ?hB _; case hB => (first | omega | (simp; done) | (simp; omega))) | (with_reducible refine Below.trans ?_ (Below.mono (by assumption) ?hB); case hB => (first | omega | (simp; done) | (simp; omega)))))
  have hs1 := B1.out.lt
  clear hu1 rw0 q0
  refine Calls.mono (framemay_v ⟨2, s, bo, sq, st, ds, ta, tb, wh, wn, n, y, a, b, d⟩ _ hg.out _) ?_; rintro e w2 ⟨rfl, hb2⟩
  replace B1 := Lib.hid (B1.out.keep hb2)
  replace HB := Lib.hid ((HB.out.trans (hb1.mono (by omega))).trans (hb2.mono (by omega)))
  have hz2 := hb2.size
  clear hb1 hb2
  have rw1 := B1.out.row?_all 15 rfl
  have l1 := B1.out.lt
  go_wp2_with fail
  refine Calls.mono (framemay_v ⟨8, s, bo, sq, st, ds, ta, tb, wh, wn, x, y, a, b, d⟩ _ hh.out _) ?_; rintro e w3 ⟨rfl, hb3⟩
  have hz3 := hb3.size
  replace HB := Lib.hid (HB.out.trans (hb3.mono (by omega)))
  clear hb3 rw1
  go_wp2_with fail
  refine Calls.mono (awake_c _) ?_; rintro e w4 ⟨rfl, hb4⟩
  replace HB := Lib.hid (HB.out.trans (hb4.mono (by omega)))
  go_wp2_with fail
  go_ret
  exact ⟨rfl, by rw [← HB0.out]; exact HB.out⟩
set_option maxRecDepth 100000 in
set_option maxHeartbeats 8000000 in
theorem frameFields_3 (s bo sq st ds ta tb wh wn x y a b d n : Int) (hn : n ≠ 0) (hm : mayF ⟨3, s, bo, sq, st, ds, ta, tb, wh, wn, x, y, a, b, d⟩ = true) (w : World) :
    Calls Try.prog 6 #[frC 3 s bo sq st ds ta tb wh wn x y a b d, .int .i64 n] w fun e w' => e = .returned (.bool true) ∧ Below w.heap.size w w' := by
  have hg : Hid (mayF ⟨3, s, bo, sq, st, ds, ta, tb, wh, wn, n, y, a, b, d⟩ = false) := bad_not ⟨3, s, bo, sq, st, ds, ta, tb, wh, wn, x, y, a, b, d⟩ n hm hn
  have hh : Hid (mayF ⟨8, s, bo, sq, st, ds, ta, tb, wh, wn, x, y, a, b, d⟩ = false) := kind8 ⟨3, s, bo, sq, st, ds, ta, tb, wh, wn, x, y, a, b, d⟩
  have HM := Lib.hid hm
  clear hm
  go_enter Try.func6, Try.ntmps6
  go_wp2_with fail
  refine name_calls ?_; intro u0 hu0
  obtain ⟨b0, hb0⟩ : ∃ b0, b0 = w.heap.size := ⟨_, rfl⟩
  have HB : Hid (Below b0 w u0) := by rw [hu0, hb0]; show Below w.heap.size w _; exact (by repeat (first | with_reducible exact Below.refl _ _ | with_reducible exact Below_of_hid (by assumption) | with_reducible refine Below.drew ?_ | with_reducible refine below_drewN ?_ _ | (with_reducible refine Below_putRow ?_ ?hB _ _; case hB => (first | omega | (simp; done) | (simp; omega))) | (with_reducible refine Below.alloc ?_ ?hB _; case hB => (first | omega | (simp; done) | (simp; omega))) | (with_reducible refine Below.setCell ?_ ?hB _; case hB => (first | omega | (simp; done) | (simp; omega))) | (with_reducible refine Below.trans ?_ (Below.mono (by assumption) ?hB); case hB => (first | omega | (simp; done) | (simp; omega)))))
  have B0 : Hid (Blk u0 b0 #[.int .i64 3, .int .i64 s, .int .i64 bo, .int .i64 sq, .int .i64 st, .int .i64 ds, .int .i64 ta, .int .i64 tb, .int .i64 wh, .int .i64 wn, .int .i64 x, .int .i64 y, .int .i64 a, .int .i64 b, .int .i64 d] 29) := by rw [hu0, hb0]; exact Blk.new _ _ _
  rw [← hb0]
  have HB0 := Lib.hid hb0
  have hs0 := B0.out.lt
  clear hu0 hb0
  refine Calls.mono (framemay_v ⟨3, s, bo, sq, st, ds, ta, tb, wh, wn, x, y, a, b, d⟩ _ HM.out _) ?_; rintro e w1 ⟨rfl, hb1⟩
  replace HB := Lib.hid (HB.out.trans (hb1.mono (by omega)))
  replace B0 := Lib.hid (B0.out.keep hb1)
  clear hb1 hs0
  have rw0 := B0.out.row?_all 15 rfl
  have q0 : w1.cell? ⟨b0, 0, none⟩ = some (.int .i64 3) := B0.out.cell rfl
  have l0 := B0.out.lt
  go_wp2_with fail
  refine name_calls ?_; intro u1 hu1
  have B1 : Hid (Blk u1 (w1.heap.size + 1) #[.int .i64 8, .int .i64 s, .int .i64 bo, .int .i64 sq, .int .i64 st, .int .i64 ds, .int .i64 ta, .int .i64 tb, .int .i64 wh, .int .i64 wn, .int .i64 x, .int .i64 y, .int .i64 a, .int .i64 b, .int .i64 d] 29) := by rw [hu1]; exact Blk.new' _ _ _ (by simp)
  have hb1 : Below w1.heap.size w1 u1 := by rw [hu1]; exact (by repeat (first | with_reducible exact Below.refl _ _ | with_reducible exact Below_of_hid (by assumption) | with_reducible refine Below.drew ?_ | with_reducible refine below_drewN ?_ _ | (with_reducible refine Below_putRow ?_ ?hB _ _; case hB => (first | omega | (simp; done) | (simp; omega))) | (with_reducible refine Below.alloc ?_ ?hB _; case hB => (first | omega | (simp; done) | (simp; omega))) | (with_reducible refine Below.setCell ?_ ?hB _; case hB => (first | omega | (simp; done) | (simp; omega))) | (with_reducible refine Below.trans ?_ (Below.mono (by assumption) ?hB); case hB => (first | omega | (simp; done) | (simp; omega)))))
  have hs1 := B1.out.lt
  clear hu1 rw0 q0
  refine Calls.mono (framemay_v ⟨3, s, bo, sq, st, ds, ta, tb, wh, wn, n, y, a, b, d⟩ _ hg.out _) ?_; rintro e w2 ⟨rfl, hb2⟩
  replace B1 := Lib.hid (B1.out.keep hb2)
  replace HB := Lib.hid ((HB.out.trans (hb1.mono (by omega))).trans (hb2.mono (by omega)))
  have hz2 := hb2.size
  clear hb1 hb2
  have rw1 := B1.out.row?_all 15 rfl
  have l1 := B1.out.lt
  go_wp2_with fail
  refine Calls.mono (framemay_v ⟨8, s, bo, sq, st, ds, ta, tb, wh, wn, x, y, a, b, d⟩ _ hh.out _) ?_; rintro e w3 ⟨rfl, hb3⟩
  have hz3 := hb3.size
  replace HB := Lib.hid (HB.out.trans (hb3.mono (by omega)))
  clear hb3 rw1
  go_wp2_with fail
  refine Calls.mono (awake_c _) ?_; rintro e w4 ⟨rfl, hb4⟩
  replace HB := Lib.hid (HB.out.trans (hb4.mono (by omega)))
  go_wp2_with fail
  go_ret
  exact ⟨rfl, by rw [← HB0.out]; exact HB.out⟩
set_option maxRecDepth 100000 in
set_option maxHeartbeats 8000000 in
theorem frameFields_4 (s bo sq st ds ta tb wh wn x y a b d n : Int) (hn : n ≠ 0) (hm : mayF ⟨4, s, bo, sq, st, ds, ta, tb, wh, wn, x, y, a, b, d⟩ = true) (w : World) :
    Calls Try.prog 6 #[frC 4 s bo sq st ds ta tb wh wn x y a b d, .int .i64 n] w fun e w' => e = .returned (.bool true) ∧ Below w.heap.size w w' := by
  have hg : Hid (mayF ⟨4, s, bo, sq, st, ds, ta, tb, wh, wn, n, y, a, b, d⟩ = false) := bad_not ⟨4, s, bo, sq, st, ds, ta, tb, wh, wn, x, y, a, b, d⟩ n hm hn
  have hh : Hid (mayF ⟨8, s, bo, sq, st, ds, ta, tb, wh, wn, x, y, a, b, d⟩ = false) := kind8 ⟨4, s, bo, sq, st, ds, ta, tb, wh, wn, x, y, a, b, d⟩
  have HM := Lib.hid hm
  clear hm
  go_enter Try.func6, Try.ntmps6
  go_wp2_with fail
  refine name_calls ?_; intro u0 hu0
  obtain ⟨b0, hb0⟩ : ∃ b0, b0 = w.heap.size := ⟨_, rfl⟩
  have HB : Hid (Below b0 w u0) := by rw [hu0, hb0]; show Below w.heap.size w _; exact (by repeat (first | with_reducible exact Below.refl _ _ | with_reducible exact Below_of_hid (by assumption) | with_reducible refine Below.drew ?_ | with_reducible refine below_drewN ?_ _ | (with_reducible refine Below_putRow ?_ ?hB _ _; case hB => (first | omega | (simp; done) | (simp; omega))) | (with_reducible refine Below.alloc ?_ ?hB _; case hB => (first | omega | (simp; done) | (simp; omega))) | (with_reducible refine Below.setCell ?_ ?hB _; case hB => (first | omega | (simp; done) | (simp; omega))) | (with_reducible refine Below.trans ?_ (Below.mono (by assumption) ?hB); case hB => (first | omega | (simp; done) | (simp; omega)))))
  have B0 : Hid (Blk u0 b0 #[.int .i64 4, .int .i64 s, .int .i64 bo, .int .i64 sq, .int .i64 st, .int .i64 ds, .int .i64 ta, .int .i64 tb, .int .i64 wh, .int .i64 wn, .int .i64 x, .int .i64 y, .int .i64 a, .int .i64 b, .int .i64 d] 29) := by rw [hu0, hb0]; exact Blk.new _ _ _
  rw [← hb0]
  have HB0 := Lib.hid hb0
  have hs0 := B0.out.lt
  clear hu0 hb0
  refine Calls.mono (framemay_v ⟨4, s, bo, sq, st, ds, ta, tb, wh, wn, x, y, a, b, d⟩ _ HM.out _) ?_; rintro e w1 ⟨rfl, hb1⟩
  replace HB := Lib.hid (HB.out.trans (hb1.mono (by omega)))
  replace B0 := Lib.hid (B0.out.keep hb1)
  clear hb1 hs0
  have rw0 := B0.out.row?_all 15 rfl
  have q0 : w1.cell? ⟨b0, 0, none⟩ = some (.int .i64 4) := B0.out.cell rfl
  have l0 := B0.out.lt
  go_wp2_with fail
  refine name_calls ?_; intro u1 hu1
  have B1 : Hid (Blk u1 (w1.heap.size + 1) #[.int .i64 8, .int .i64 s, .int .i64 bo, .int .i64 sq, .int .i64 st, .int .i64 ds, .int .i64 ta, .int .i64 tb, .int .i64 wh, .int .i64 wn, .int .i64 x, .int .i64 y, .int .i64 a, .int .i64 b, .int .i64 d] 29) := by rw [hu1]; exact Blk.new' _ _ _ (by simp)
  have hb1 : Below w1.heap.size w1 u1 := by rw [hu1]; exact (by repeat (first | with_reducible exact Below.refl _ _ | with_reducible exact Below_of_hid (by assumption) | with_reducible refine Below.drew ?_ | with_reducible refine below_drewN ?_ _ | (with_reducible refine Below_putRow ?_ ?hB _ _; case hB => (first | omega | (simp; done) | (simp; omega))) | (with_reducible refine Below.alloc ?_ ?hB _; case hB => (first | omega | (simp; done) | (simp; omega))) | (with_reducible refine Below.setCell ?_ ?hB _; case hB => (first | omega | (simp; done) | (simp; omega))) | (with_reducible refine Below.trans ?_ (Below.mono (by assumption) ?hB); case hB => (first | omega | (simp; done) | (simp; omega)))))
  have hs1 := B1.out.lt
  clear hu1 rw0 q0
  refine Calls.mono (framemay_v ⟨4, s, bo, sq, st, ds, ta, tb, wh, wn, n, y, a, b, d⟩ _ hg.out _) ?_; rintro e w2 ⟨rfl, hb2⟩
  replace B1 := Lib.hid (B1.out.keep hb2)
  replace HB := Lib.hid ((HB.out.trans (hb1.mono (by omega))).trans (hb2.mono (by omega)))
  have hz2 := hb2.size
  clear hb1 hb2
  have rw1 := B1.out.row?_all 15 rfl
  have l1 := B1.out.lt
  go_wp2_with fail
  refine Calls.mono (framemay_v ⟨8, s, bo, sq, st, ds, ta, tb, wh, wn, x, y, a, b, d⟩ _ hh.out _) ?_; rintro e w3 ⟨rfl, hb3⟩
  have hz3 := hb3.size
  replace HB := Lib.hid (HB.out.trans (hb3.mono (by omega)))
  clear hb3 rw1
  go_wp2_with fail
  refine Calls.mono (awake_c _) ?_; rintro e w4 ⟨rfl, hb4⟩
  replace HB := Lib.hid (HB.out.trans (hb4.mono (by omega)))
  go_wp2_with fail
  go_ret
  exact ⟨rfl, by rw [← HB0.out]; exact HB.out⟩
set_option maxRecDepth 100000 in
set_option maxHeartbeats 8000000 in
theorem frameFields_5 (s bo sq st ds ta tb wh wn x y a b d n : Int) (hn : n ≠ 0) (hm : mayF ⟨5, s, bo, sq, st, ds, ta, tb, wh, wn, x, y, a, b, d⟩ = true) (w : World) :
    Calls Try.prog 6 #[frC 5 s bo sq st ds ta tb wh wn x y a b d, .int .i64 n] w fun e w' => e = .returned (.bool true) ∧ Below w.heap.size w w' := by
  have hg : Hid (mayF ⟨5, s, bo, sq, st, ds, n, tb, wh, wn, x, y, a, b, d⟩ = false) := bad_not ⟨5, s, bo, sq, st, ds, ta, tb, wh, wn, x, y, a, b, d⟩ n hm hn
  have hh : Hid (mayF ⟨8, s, bo, sq, st, ds, ta, tb, wh, wn, x, y, a, b, d⟩ = false) := kind8 ⟨5, s, bo, sq, st, ds, ta, tb, wh, wn, x, y, a, b, d⟩
  have HM := Lib.hid hm
  clear hm
  go_enter Try.func6, Try.ntmps6
  go_wp2_with fail
  refine name_calls ?_; intro u0 hu0
  obtain ⟨b0, hb0⟩ : ∃ b0, b0 = w.heap.size := ⟨_, rfl⟩
  have HB : Hid (Below b0 w u0) := by rw [hu0, hb0]; show Below w.heap.size w _; exact (by repeat (first | with_reducible exact Below.refl _ _ | with_reducible exact Below_of_hid (by assumption) | with_reducible refine Below.drew ?_ | with_reducible refine below_drewN ?_ _ | (with_reducible refine Below_putRow ?_ ?hB _ _; case hB => (first | omega | (simp; done) | (simp; omega))) | (with_reducible refine Below.alloc ?_ ?hB _; case hB => (first | omega | (simp; done) | (simp; omega))) | (with_reducible refine Below.setCell ?_ ?hB _; case hB => (first | omega | (simp; done) | (simp; omega))) | (with_reducible refine Below.trans ?_ (Below.mono (by assumption) ?hB); case hB => (first | omega | (simp; done) | (simp; omega)))))
  have B0 : Hid (Blk u0 b0 #[.int .i64 5, .int .i64 s, .int .i64 bo, .int .i64 sq, .int .i64 st, .int .i64 ds, .int .i64 ta, .int .i64 tb, .int .i64 wh, .int .i64 wn, .int .i64 x, .int .i64 y, .int .i64 a, .int .i64 b, .int .i64 d] 29) := by rw [hu0, hb0]; exact Blk.new _ _ _
  rw [← hb0]
  have HB0 := Lib.hid hb0
  have hs0 := B0.out.lt
  clear hu0 hb0
  refine Calls.mono (framemay_v ⟨5, s, bo, sq, st, ds, ta, tb, wh, wn, x, y, a, b, d⟩ _ HM.out _) ?_; rintro e w1 ⟨rfl, hb1⟩
  replace HB := Lib.hid (HB.out.trans (hb1.mono (by omega)))
  replace B0 := Lib.hid (B0.out.keep hb1)
  clear hb1 hs0
  have rw0 := B0.out.row?_all 15 rfl
  have q0 : w1.cell? ⟨b0, 0, none⟩ = some (.int .i64 5) := B0.out.cell rfl
  have l0 := B0.out.lt
  go_wp2_with fail
  refine name_calls ?_; intro u1 hu1
  have B1 : Hid (Blk u1 (w1.heap.size + 1) #[.int .i64 8, .int .i64 s, .int .i64 bo, .int .i64 sq, .int .i64 st, .int .i64 ds, .int .i64 ta, .int .i64 tb, .int .i64 wh, .int .i64 wn, .int .i64 x, .int .i64 y, .int .i64 a, .int .i64 b, .int .i64 d] 29) := by rw [hu1]; exact Blk.new' _ _ _ (by simp)
  have hb1 : Below w1.heap.size w1 u1 := by rw [hu1]; exact (by repeat (first | with_reducible exact Below.refl _ _ | with_reducible exact Below_of_hid (by assumption) | with_reducible refine Below.drew ?_ | with_reducible refine below_drewN ?_ _ | (with_reducible refine Below_putRow ?_ ?hB _ _; case hB => (first | omega | (simp; done) | (simp; omega))) | (with_reducible refine Below.alloc ?_ ?hB _; case hB => (first | omega | (simp; done) | (simp; omega))) | (with_reducible refine Below.setCell ?_ ?hB _; case hB => (first | omega | (simp; done) | (simp; omega))) | (with_reducible refine Below.trans ?_ (Below.mono (by assumption) ?hB); case hB => (first | omega | (simp; done) | (simp; omega)))))
  have hs1 := B1.out.lt
  clear hu1 rw0 q0
  refine Calls.mono (framemay_v ⟨5, s, bo, sq, st, ds, n, tb, wh, wn, x, y, a, b, d⟩ _ hg.out _) ?_; rintro e w2 ⟨rfl, hb2⟩
  replace B1 := Lib.hid (B1.out.keep hb2)
  replace HB := Lib.hid ((HB.out.trans (hb1.mono (by omega))).trans (hb2.mono (by omega)))
  have hz2 := hb2.size
  clear hb1 hb2
  have rw1 := B1.out.row?_all 15 rfl
  have l1 := B1.out.lt
  go_wp2_with fail
  refine Calls.mono (framemay_v ⟨8, s, bo, sq, st, ds, ta, tb, wh, wn, x, y, a, b, d⟩ _ hh.out _) ?_; rintro e w3 ⟨rfl, hb3⟩
  have hz3 := hb3.size
  replace HB := Lib.hid (HB.out.trans (hb3.mono (by omega)))
  clear hb3 rw1
  go_wp2_with fail
  refine Calls.mono (awake_c _) ?_; rintro e w4 ⟨rfl, hb4⟩
  replace HB := Lib.hid (HB.out.trans (hb4.mono (by omega)))
  go_wp2_with fail
  go_ret
  exact ⟨rfl, by rw [← HB0.out]; exact HB.out⟩
set_option maxRecDepth 100000 in
set_option maxHeartbeats 8000000 in
theorem frameFields_6 (s bo sq st ds ta tb wh wn x y a b d n : Int) (hn : n ≠ 0) (hm : mayF ⟨6, s, bo, sq, st, ds, ta, tb, wh, wn, x, y, a, b, d⟩ = true) (w : World) :
    Calls Try.prog 6 #[frC 6 s bo sq st ds ta tb wh wn x y a b d, .int .i64 n] w fun e w' => e = .returned (.bool true) ∧ Below w.heap.size w w' := by
  have hg : Hid (mayF ⟨6, s, bo, sq, st, ds, ta, n, wh, wn, x, y, a, b, d⟩ = false) := bad_not ⟨6, s, bo, sq, st, ds, ta, tb, wh, wn, x, y, a, b, d⟩ n hm hn
  have hh : Hid (mayF ⟨8, s, bo, sq, st, ds, ta, tb, wh, wn, x, y, a, b, d⟩ = false) := kind8 ⟨6, s, bo, sq, st, ds, ta, tb, wh, wn, x, y, a, b, d⟩
  have HM := Lib.hid hm
  clear hm
  go_enter Try.func6, Try.ntmps6
  go_wp2_with fail
  refine name_calls ?_; intro u0 hu0
  obtain ⟨b0, hb0⟩ : ∃ b0, b0 = w.heap.size := ⟨_, rfl⟩
  have HB : Hid (Below b0 w u0) := by rw [hu0, hb0]; show Below w.heap.size w _; exact (by repeat (first | with_reducible exact Below.refl _ _ | with_reducible exact Below_of_hid (by assumption) | with_reducible refine Below.drew ?_ | with_reducible refine below_drewN ?_ _ | (with_reducible refine Below_putRow ?_ ?hB _ _; case hB => (first | omega | (simp; done) | (simp; omega))) | (with_reducible refine Below.alloc ?_ ?hB _; case hB => (first | omega | (simp; done) | (simp; omega))) | (with_reducible refine Below.setCell ?_ ?hB _; case hB => (first | omega | (simp; done) | (simp; omega))) | (with_reducible refine Below.trans ?_ (Below.mono (by assumption) ?hB); case hB => (first | omega | (simp; done) | (simp; omega)))))
  have B0 : Hid (Blk u0 b0 #[.int .i64 6, .int .i64 s, .int .i64 bo, .int .i64 sq, .int .i64 st, .int .i64 ds, .int .i64 ta, .int .i64 tb, .int .i64 wh, .int .i64 wn, .int .i64 x, .int .i64 y, .int .i64 a, .int .i64 b, .int .i64 d] 29) := by rw [hu0, hb0]; exact Blk.new _ _ _
  rw [← hb0]
  have HB0 := Lib.hid hb0
  have hs0 := B0.out.lt
  clear hu0 hb0
  refine Calls.mono (framemay_v ⟨6, s, bo, sq, st, ds, ta, tb, wh, wn, x, y, a, b, d⟩ _ HM.out _) ?_; rintro e w1 ⟨rfl, hb1⟩
  replace HB := Lib.hid (HB.out.trans (hb1.mono (by omega)))
  replace B0 := Lib.hid (B0.out.keep hb1)
  clear hb1 hs0
  have rw0 := B0.out.row?_all 15 rfl
  have q0 : w1.cell? ⟨b0, 0, none⟩ = some (.int .i64 6) := B0.out.cell rfl
  have l0 := B0.out.lt
  go_wp2_with fail
  refine name_calls ?_; intro u1 hu1
  have B1 : Hid (Blk u1 (w1.heap.size + 1) #[.int .i64 8, .int .i64 s, .int .i64 bo, .int .i64 sq, .int .i64 st, .int .i64 ds, .int .i64 ta, .int .i64 tb, .int .i64 wh, .int .i64 wn, .int .i64 x, .int .i64 y, .int .i64 a, .int .i64 b, .int .i64 d] 29) := by rw [hu1]; exact Blk.new' _ _ _ (by simp)
  have hb1 : Below w1.heap.size w1 u1 := by rw [hu1]; exact (by repeat (first | with_reducible exact Below.refl _ _ | with_reducible exact Below_of_hid (by assumption) | with_reducible refine Below.drew ?_ | with_reducible refine below_drewN ?_ _ | (with_reducible refine Below_putRow ?_ ?hB _ _; case hB => (first | omega | (simp; done) | (simp; omega))) | (with_reducible refine Below.alloc ?_ ?hB _; case hB => (first | omega | (simp; done) | (simp; omega))) | (with_reducible refine Below.setCell ?_ ?hB _; case hB => (first | omega | (simp; done) | (simp; omega))) | (with_reducible refine Below.trans ?_ (Below.mono (by assumption) ?hB); case hB => (first | omega | (simp; done) | (simp; omega)))))
  have hs1 := B1.out.lt
  clear hu1 rw0 q0
  refine Calls.mono (framemay_v ⟨6, s, bo, sq, st, ds, ta, n, wh, wn, x, y, a, b, d⟩ _ hg.out _) ?_; rintro e w2 ⟨rfl, hb2⟩
  replace B1 := Lib.hid (B1.out.keep hb2)
  replace HB := Lib.hid ((HB.out.trans (hb1.mono (by omega))).trans (hb2.mono (by omega)))
  have hz2 := hb2.size
  clear hb1 hb2
  have rw1 := B1.out.row?_all 15 rfl
  have l1 := B1.out.lt
  go_wp2_with fail
  refine Calls.mono (framemay_v ⟨8, s, bo, sq, st, ds, ta, tb, wh, wn, x, y, a, b, d⟩ _ hh.out _) ?_; rintro e w3 ⟨rfl, hb3⟩
  have hz3 := hb3.size
  replace HB := Lib.hid (HB.out.trans (hb3.mono (by omega)))
  clear hb3 rw1
  go_wp2_with fail
  refine Calls.mono (awake_c _) ?_; rintro e w4 ⟨rfl, hb4⟩
  replace HB := Lib.hid (HB.out.trans (hb4.mono (by omega)))
  go_wp2_with fail
  go_ret
  exact ⟨rfl, by rw [← HB0.out]; exact HB.out⟩
set_option maxRecDepth 100000 in
set_option maxHeartbeats 8000000 in
theorem frameFields_7 (s bo sq st ds ta tb wh wn x y a b d n : Int) (hn : n ≠ 0) (hm : mayF ⟨7, s, bo, sq, st, ds, ta, tb, wh, wn, x, y, a, b, d⟩ = true) (w : World) :
    Calls Try.prog 6 #[frC 7 s bo sq st ds ta tb wh wn x y a b d, .int .i64 n] w fun e w' => e = .returned (.bool true) ∧ Below w.heap.size w w' := by
  have hg : Hid (mayF ⟨7, s, bo, sq, st, ds, n, tb, wh, wn, x, y, a, b, d⟩ = false) := bad_not ⟨7, s, bo, sq, st, ds, ta, tb, wh, wn, x, y, a, b, d⟩ n hm hn
  have hh : Hid (mayF ⟨8, s, bo, sq, st, ds, ta, tb, wh, wn, x, y, a, b, d⟩ = false) := kind8 ⟨7, s, bo, sq, st, ds, ta, tb, wh, wn, x, y, a, b, d⟩
  have HM := Lib.hid hm
  clear hm
  go_enter Try.func6, Try.ntmps6
  go_wp2_with fail
  refine name_calls ?_; intro u0 hu0
  obtain ⟨b0, hb0⟩ : ∃ b0, b0 = w.heap.size := ⟨_, rfl⟩
  have HB : Hid (Below b0 w u0) := by rw [hu0, hb0]; show Below w.heap.size w _; exact (by repeat (first | with_reducible exact Below.refl _ _ | with_reducible exact Below_of_hid (by assumption) | with_reducible refine Below.drew ?_ | with_reducible refine below_drewN ?_ _ | (with_reducible refine Below_putRow ?_ ?hB _ _; case hB => (first | omega | (simp; done) | (simp; omega))) | (with_reducible refine Below.alloc ?_ ?hB _; case hB => (first | omega | (simp; done) | (simp; omega))) | (with_reducible refine Below.setCell ?_ ?hB _; case hB => (first | omega | (simp; done) | (simp; omega))) | (with_reducible refine Below.trans ?_ (Below.mono (by assumption) ?hB); case hB => (first | omega | (simp; done) | (simp; omega)))))
  have B0 : Hid (Blk u0 b0 #[.int .i64 7, .int .i64 s, .int .i64 bo, .int .i64 sq, .int .i64 st, .int .i64 ds, .int .i64 ta, .int .i64 tb, .int .i64 wh, .int .i64 wn, .int .i64 x, .int .i64 y, .int .i64 a, .int .i64 b, .int .i64 d] 29) := by rw [hu0, hb0]; exact Blk.new _ _ _
  rw [← hb0]
  have HB0 := Lib.hid hb0
  have hs0 := B0.out.lt
  clear hu0 hb0
  refine Calls.mono (framemay_v ⟨7, s, bo, sq, st, ds, ta, tb, wh, wn, x, y, a, b, d⟩ _ HM.out _) ?_; rintro e w1 ⟨rfl, hb1⟩
  replace HB := Lib.hid (HB.out.trans (hb1.mono (by omega)))
  replace B0 := Lib.hid (B0.out.keep hb1)
  clear hb1 hs0
  have rw0 := B0.out.row?_all 15 rfl
  have q0 : w1.cell? ⟨b0, 0, none⟩ = some (.int .i64 7) := B0.out.cell rfl
  have l0 := B0.out.lt
  go_wp2_with fail
  refine name_calls ?_; intro u1 hu1
  have B1 : Hid (Blk u1 (w1.heap.size + 1) #[.int .i64 8, .int .i64 s, .int .i64 bo, .int .i64 sq, .int .i64 st, .int .i64 ds, .int .i64 ta, .int .i64 tb, .int .i64 wh, .int .i64 wn, .int .i64 x, .int .i64 y, .int .i64 a, .int .i64 b, .int .i64 d] 29) := by rw [hu1]; exact Blk.new' _ _ _ (by simp)
  have hb1 : Below w1.heap.size w1 u1 := by rw [hu1]; exact (by repeat (first | with_reducible exact Below.refl _ _ | with_reducible exact Below_of_hid (by assumption) | with_reducible refine Below.drew ?_ | with_reducible refine below_drewN ?_ _ | (with_reducible refine Below_putRow ?_ ?hB _ _; case hB => (first | omega | (simp; done) | (simp; omega))) | (with_reducible refine Below.alloc ?_ ?hB _; case hB => (first | omega | (simp; done) | (simp; omega))) | (with_reducible refine Below.setCell ?_ ?hB _; case hB => (first | omega | (simp; done) | (simp; omega))) | (with_reducible refine Below.trans ?_ (Below.mono (by assumption) ?hB); case hB => (first | omega | (simp; done) | (simp; omega)))))
  have hs1 := B1.out.lt
  clear hu1 rw0 q0
  refine Calls.mono (framemay_v ⟨7, s, bo, sq, st, ds, n, tb, wh, wn, x, y, a, b, d⟩ _ hg.out _) ?_; rintro e w2 ⟨rfl, hb2⟩
  replace B1 := Lib.hid (B1.out.keep hb2)
  replace HB := Lib.hid ((HB.out.trans (hb1.mono (by omega))).trans (hb2.mono (by omega)))
  have hz2 := hb2.size
  clear hb1 hb2
  have rw1 := B1.out.row?_all 15 rfl
  have l1 := B1.out.lt
  go_wp2_with fail
  refine Calls.mono (framemay_v ⟨8, s, bo, sq, st, ds, ta, tb, wh, wn, x, y, a, b, d⟩ _ hh.out _) ?_; rintro e w3 ⟨rfl, hb3⟩
  have hz3 := hb3.size
  replace HB := Lib.hid (HB.out.trans (hb3.mono (by omega)))
  clear hb3 rw1
  go_wp2_with fail
  refine Calls.mono (awake_c _) ?_; rintro e w4 ⟨rfl, hb4⟩
  replace HB := Lib.hid (HB.out.trans (hb4.mono (by omega)))
  go_wp2_with fail
  go_ret
  exact ⟨rfl, by rw [← HB0.out]; exact HB.out⟩
theorem frameFields_c (k s bo sq st ds ta tb wh wn x y a b d n : Int) (w : World) :
    Calls Try.prog 6 #[frC k s bo sq st ds ta tb wh wn x y a b d, .int .i64 n] w fun e w' => e = .returned (.bool true) ∧ Below w.heap.size w w' := by
  cases hm : mayF ⟨k, s, bo, sq, st, ds, ta, tb, wh, wn, x, y, a, b, d⟩ with
  | false => exact frameFields_f _ _ _ _ _ _ _ _ _ _ _ _ _ _ _ _ hm _
  | true =>
    by_cases hn : n = 0
    · subst hn; exact frameFields_0 _ _ _ _ _ _ _ _ _ _ _ _ _ _ _ hm _
    have hk := (frr_of_may _ hm).kind
    simp only at hk
    rcases (by omega : k = 1 ∨ k = 2 ∨ k = 3 ∨ k = 4 ∨ k = 5 ∨ k = 6 ∨ k = 7) with rfl | rfl | rfl | rfl | rfl | rfl | rfl
    · exact frameFields_1 _ _ _ _ _ _ _ _ _ _ _ _ _ _ _ hn hm _
    · exact frameFields_2 _ _ _ _ _ _ _ _ _ _ _ _ _ _ _ hn hm _
    · exact frameFields_3 _ _ _ _ _ _ _ _ _ _ _ _ _ _ _ hn hm _
    · exact frameFields_4 _ _ _ _ _ _ _ _ _ _ _ _ _ _ _ hn hm _
    · exact frameFields_5 _ _ _ _ _ _ _ _ _ _ _ _ _ _ _ hn hm _
    · exact frameFields_6 _ _ _ _ _ _ _ _ _ _ _ _ _ _ _ hn hm _
    · exact frameFields_7 _ _ _ _ _ _ _ _ _ _ _ _ _ _ _ hn hm _
end Go.Proofs.Ytdipecepgfaokaa
