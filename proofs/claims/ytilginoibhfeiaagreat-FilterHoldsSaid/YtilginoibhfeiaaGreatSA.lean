/- Worlds that differ in one block, and in new ones: what a method on a pointer leaves. The walks of esmf where there is no filter; New, Valid, E, Lose, Set of one that there is. awake of the laws of esmf; FilterNil. The walks of esmf: Move, take. The walks of esmf: take, Meet, Range. -/
import Derived.Test.YtilginoibhfeiaaGreatBE
import Derived.BigRegion
import Derived.Lib.QuietBelow
import Derived.BigQuiet
import Derived.Test.YtilginoibhfeiaaGreatVA
import Derived.Deep.RegionHeld3
import Derived.Deep.Cut
import Derived.Test.YtilginoibhfeiaaGreatVB
namespace Go.Proofs.YtilginoibhfeiaaGreat
open Go.RowKit

/-- w' is w with new blocks, and another content of block g. -/
structure OnlyAt (g : Nat) (w w' : World) : Prop where
  os : w'.os = w.os
  tape : w'.tape = w.tape
  output : w'.output = w.output
  size : w.heap.size ≤ w'.heap.size
  block : ∀ k, k < w.heap.size → k ≠ g → w'.heap[k]? = w.heap[k]?
section
variable {g : Nat} {w w' w'' : World}
theorem OnlyAt.refl : OnlyAt g w w := ⟨rfl, rfl, rfl, Nat.le_refl _, fun _ _ _ => rfl⟩
theorem OnlyAt.of_below (h : Below w.heap.size w w') : OnlyAt g w w' := ⟨h.os, h.tape, h.output, h.size, fun k hk _ => h.block k hk⟩
theorem OnlyAt.trans (h : OnlyAt g w w') (h' : OnlyAt g w' w'') : OnlyAt g w w'' :=
  ⟨h'.os.trans h.os, h'.tape.trans h.tape, h'.output.trans h.output, Nat.le_trans h.size h'.size, fun k hk hg => (h'.block k (Nat.lt_of_lt_of_le hk h.size) hg).trans (h.block k hk hg)⟩
theorem OnlyAt.alloc (h : OnlyAt g w w') (o : Obj) : OnlyAt g w (w'.alloc o) :=
  ⟨h.os, h.tape, h.output, by have := h.size; simp; omega, fun k hk hg => (Below.heap_alloc w' o k (Nat.lt_of_lt_of_le hk h.size)).trans (h.block k hk hg)⟩
theorem OnlyAt.drew (h : OnlyAt g w w') : OnlyAt g w w'.drew := ⟨h.os, h.tape, h.output, h.size, h.block⟩
theorem OnlyAt.setCell (h : OnlyAt g w w') (i : Nat) (v : Value) : OnlyAt g w (w'.setCell ⟨g, i, none⟩ v) :=
  ⟨h.os, h.tape, h.output, by have := h.size; simpa using this, fun k hk hg => (heap_setCell_other w' ⟨g, i, none⟩ k v hg).trans (h.block k hk hg)⟩
/-- A store into a new block. -/
theorem OnlyAt.setNew (h : OnlyAt g w w') {b : Nat} (hb : w.heap.size ≤ b) (i : Nat) (v : Value) : OnlyAt g w (w'.setCell ⟨b, i, none⟩ v) :=
  ⟨h.os, h.tape, h.output, by have := h.size; simpa using this, fun k hk hg => (heap_setCell_other w' ⟨b, i, none⟩ k v (by simp only; omega)).trans (h.block k hk hg)⟩
theorem OnlyAt.blk (h : OnlyAt g w w') {b : Nat} {c : Array Value} {t : TypeId} (hb : Blk w b c t) (hne : b ≠ g) : Blk w' b c t := (h.block b hb.lt hne).trans hb
theorem OnlyAt.below {B : Nat} {w0 : World} (h : OnlyAt g w w') (hb : Below B w0 w) (hB : B ≤ w0.heap.size) (hg : B ≤ g) : Below B w0 w' :=
  ⟨h.os.trans hb.os, h.tape.trans hb.tape, h.output.trans hb.output, Nat.le_trans hb.size h.size, fun k hk => (h.block k (by have := hb.size; omega) (by omega)).trans (hb.block k hk)⟩
end
end Go.Proofs.YtilginoibhfeiaaGreat
namespace Go.Proofs.YtilginoibhfeiaaGreat
open Go.RowKit

/-- A filter's block. -/
abbrev flt (most : Int) (v : Bool) (x y a b d : Int) : Array Value := #[.int .i64 most, .bool v, .int .i64 x, .int .i64 y, .int .i64 a, .int .i64 b, .int .i64 d]
theorem new_c (n : Int) (w : World) : Calls Tryz.prog 23 #[.int .i64 n] w fun e w' => ∃ g, e = .returned (.pointer (some ⟨g, 0, none⟩)) ∧ w.heap.size ≤ g ∧ Blk w' g (flt (max 2 n) false 0 0 0 0 0) 112 ∧ Below w.heap.size w w' := by
  go_enter Tryz.func23, Tryz.ntmps23
  go_wp2_with fail
  go_ret
  exact ⟨_, rfl, (by first | omega | (simp; done) | (simp; omega) | fail), Blk.new _ _ _, below_byR⟩
section
variable (g : Nat) (m : Int) (v : Bool) (x y a b d : Int) (w : World) (B : Blk w g (flt m v x y a b d) 112)
include B
theorem valid_c : Calls Tryz.prog 29 #[.pointer (some ⟨g, 0, none⟩)] w fun e w' => e = .returned (.bool v) ∧ Below w.heap.size w w' := by
  obtain ⟨y1, c1, f1, r1⟩ := (show g < w.heap.size ∧ (∀ o, w.cell? ⟨g, o, none⟩ = (flt m v x y a b d)[o]?) ∧ (∀ o, w.frozen? ⟨g, o, none⟩ = false) ∧ w.row? g 0 7 = some (flt m v x y a b d) from ⟨B.lt, B.at, B.frozen, B.row?_all _ rfl⟩)
  go_enter Tryz.func29, Tryz.ntmps29
  go_wp2_with fail
  go_ret
  exact ⟨rfl, below_byR⟩
theorem e_c : Calls Tryz.prog 30 #[.pointer (some ⟨g, 0, none⟩)] w fun e w' => e = .returned (elC x y a b d) ∧ Below w.heap.size w w' := by
  obtain ⟨y1, c1, f1, r1⟩ := (show g < w.heap.size ∧ (∀ o, w.cell? ⟨g, o, none⟩ = (flt m v x y a b d)[o]?) ∧ (∀ o, w.frozen? ⟨g, o, none⟩ = false) ∧ w.row? g 0 7 = some (flt m v x y a b d) from ⟨B.lt, B.at, B.frozen, B.row?_all _ rfl⟩)
  go_enter Tryz.func30, Tryz.ntmps30
  go_wp2_with fail
  exact bodyPost_row 5 #[.int .i64 x, .int .i64 y, .int .i64 a, .int .i64 b, .int .i64 d] rfl rfl rfl Tryz.underlying27 rfl (by kernel_rfl) (row_of_cells 4 _ rfl (by intro i hi; rcases i with _ | _ | _ | _ | _ | i; (go_simp); (go_simp); (go_simp); (go_simp); (go_simp); exact absurd hi (by omega))) ⟨rfl, below_byR⟩
theorem lose_c : Calls Tryz.prog 81 #[.pointer (some ⟨g, 0, none⟩)] w fun e w' => e = .returned (.tuple #[]) ∧ OnlyAt g w w' ∧ Blk w' g (flt m false 0 0 0 0 0) 112 := by
  obtain ⟨y1, c1, f1, r1⟩ := (show g < w.heap.size ∧ (∀ o, w.cell? ⟨g, o, none⟩ = (flt m v x y a b d)[o]?) ∧ (∀ o, w.frozen? ⟨g, o, none⟩ = false) ∧ w.row? g 0 7 = some (flt m v x y a b d) from ⟨B.lt, B.at, B.frozen, B.row?_all _ rfl⟩)
  go_enter Tryz.func81, Tryz.ntmps81
  go_wp2_with fail
  refine bodyPost_end (results_none rfl _ _ _) rfl ?_
  refine ⟨rfl, (by repeat (first | with_reducible exact OnlyAt.refl | with_reducible refine OnlyAt.drew ?_ | with_reducible refine OnlyAt.setCell ?_ _ _ | (with_reducible refine OnlyAt.setNew ?_ ?hB _ _; case hB => (first | omega | (simp; done) | (simp; omega))) | with_reducible refine OnlyAt.alloc ?_ _ | with_reducible refine OnlyAt.trans ?_ (OnlyAt.of_below (by assumption)) | with_reducible refine OnlyAt.trans ?_ (by assumption))), ?_⟩
  refine Blk.of_eq (((((((B.setCell_same 1 _).setCell_same 2 _).setCell_same 3 _).setCell_same 4 _).setCell_same 5 _).setCell_same 6 _)) ?_
  rfl
end
def setS (m : Int) (v : Bool) (e f : El) : (Bool × El) × Int := if f.may = true then (if m < f.tr then ((v, e), 2) else ((true, f), 0)) else ((v, e), 1)
set_option maxRecDepth 100000 in
set_option maxHeartbeats 4000000 in
theorem set_c (g : Nat) (m : Int) (v : Bool) (x y a b d x' y' a' b' d' : Int) (w : World) (B : Blk w g (flt m v x y a b d) 112) :
    Calls Tryz.prog 25 #[.pointer (some ⟨g, 0, none⟩), elC x' y' a' b' d'] w fun e w' => ∃ v1 e1 k, setS m v ⟨x, y, a, b, d⟩ ⟨x', y', a', b', d'⟩ = ((v1, e1), k) ∧ e = .returned (.int .i64 k) ∧ OnlyAt g w w' ∧ Blk w' g (flt m v1 e1.x e1.y e1.a e1.b e1.d) 112 := by
  obtain ⟨y1, c1, f1, r1⟩ := (show g < w.heap.size ∧ (∀ o, w.cell? ⟨g, o, none⟩ = (flt m v x y a b d)[o]?) ∧ (∀ o, w.frozen? ⟨g, o, none⟩ = false) ∧ w.row? g 0 7 = some (flt m v x y a b d) from ⟨B.lt, B.at, B.frozen, B.row?_all _ rfl⟩)
  have HB := Lib.hid B
  cases hm : El.may ⟨x', y', a', b', d'⟩ with
  | false =>
    have HM := Lib.hid hm
    have E : Hid (setS m v ⟨x, y, a, b, d⟩ ⟨x', y', a', b', d'⟩ = ((v, ⟨x, y, a, b, d⟩), 1)) := by show _ = _; unfold setS; rw [if_neg (by rw [hm]; decide)]
    clear hm B
    go_enter Tryz.func25, Tryz.ntmps25
    go_wp2_with fail
    refine (ellmay_v _ _ _ _ _ _ HM.out _).mono ?_; rintro e w1 ⟨rfl, hb1⟩
    have B1 := (HB.out.alloc _).keep hb1
    go_wp2_with fail
    go_ret
    exact ⟨_, _, _, E.out, rfl, (by repeat (first | with_reducible exact OnlyAt.refl | with_reducible refine OnlyAt.drew ?_ | with_reducible refine OnlyAt.setCell ?_ _ _ | (with_reducible refine OnlyAt.setNew ?_ ?hB _ _; case hB => (first | omega | (simp; done) | (simp; omega))) | with_reducible refine OnlyAt.alloc ?_ _ | with_reducible refine OnlyAt.trans ?_ (OnlyAt.of_below (by assumption)) | with_reducible refine OnlyAt.trans ?_ (by assumption))), B1⟩
  | true =>
    have HM := Lib.hid hm
    by_cases ht : m < El.tr ⟨x', y', a', b', d'⟩
    · obtain ⟨t, hT⟩ : ∃ t, El.tr ⟨x', y', a', b', d'⟩ = t := ⟨_, rfl⟩
      have HT := Lib.hid hT
      have E : Hid (setS m v ⟨x, y, a, b, d⟩ ⟨x', y', a', b', d'⟩ = ((v, ⟨x, y, a, b, d⟩), 2)) := by show _ = _; unfold setS; rw [if_pos hm, if_pos ht]
      rw [hT] at ht
      clear hm hT B
      go_enter Tryz.func25, Tryz.ntmps25
      go_wp2_with fail
      refine (ellmay_v _ _ _ _ _ _ HM.out _).mono ?_; rintro e w1 ⟨rfl, hb1⟩; have z_w1 := hb1.size; (try simp at z_w1); obtain ⟨y_w1_0_0, c_w1_0_0, f_w1_0_0, r_w1_0_0, t_w1_0_0, p_w1_0_0⟩ := bq hb1 (w.heap.size); obtain ⟨y_w1_g, c_w1_g, f_w1_g, r_w1_g, t_w1_g, p_w1_g⟩ := bq hb1 (g)
      have B1 := (HB.out.alloc _).keep hb1
      go_wp2_with fail
      have c0 := cell_regrown (show w1.cell? ⟨w.heap.size, 0, none⟩ = some (.int .i64 x') from (by go_simp)); have c1 := cell_regrown (show w1.cell? ⟨w.heap.size, 1, none⟩ = some (.int .i64 y') from (by go_simp)); have c2 := cell_regrown (show w1.cell? ⟨w.heap.size, 2, none⟩ = some (.int .i64 a') from (by go_simp)); have c3 := cell_regrown (show w1.cell? ⟨w.heap.size, 3, none⟩ = some (.int .i64 b') from (by go_simp)); have c4 := cell_regrown (show w1.cell? ⟨w.heap.size, 4, none⟩ = some (.int .i64 d') from (by go_simp))
      have m0 := cell_regrown (show w1.cell? ⟨g, 0, none⟩ = some (.int .i64 m) from (by go_simp))
      refine wp_region_quiet_below (by kernel_rfl) (by kernel_rfl) ?_
      repeat (go_big_quiet_step (first | (go_at_call 15; exact Calls.regrown_of (trace_v _ _ _ _ _ _ HT.out _))))
      refine wpQuiet_nil ?_
      intro wq hwq
      have hbq := below_of_regrown hwq
      have B2 := B1.keep hbq
      clear hwq
      go_wp2_with fail
      go_ret
      exact ⟨_, _, _, E.out, rfl, (by repeat (first | with_reducible exact OnlyAt.refl | with_reducible refine OnlyAt.drew ?_ | with_reducible refine OnlyAt.setCell ?_ _ _ | (with_reducible refine OnlyAt.setNew ?_ ?hB _ _; case hB => (first | omega | (simp; done) | (simp; omega))) | with_reducible refine OnlyAt.alloc ?_ _ | with_reducible refine OnlyAt.trans ?_ (OnlyAt.of_below (by assumption)) | with_reducible refine OnlyAt.trans ?_ (by assumption))), B2⟩
    · obtain ⟨t, hT⟩ : ∃ t, El.tr ⟨x', y', a', b', d'⟩ = t := ⟨_, rfl⟩
      have HT := Lib.hid hT
      have E : Hid (setS m v ⟨x, y, a, b, d⟩ ⟨x', y', a', b', d'⟩ = ((true, ⟨x', y', a', b', d'⟩), 0)) := by show _ = _; unfold setS; rw [if_pos hm, if_neg ht]
      rw [hT] at ht
      clear hm hT B
      go_enter Tryz.func25, Tryz.ntmps25
      go_wp2_with fail
      refine (ellmay_v _ _ _ _ _ _ HM.out _).mono ?_; rintro e w1 ⟨rfl, hb1⟩; have z_w1 := hb1.size; (try simp at z_w1); obtain ⟨y_w1_0_0, c_w1_0_0, f_w1_0_0, r_w1_0_0, t_w1_0_0, p_w1_0_0⟩ := bq hb1 (w.heap.size); obtain ⟨y_w1_g, c_w1_g, f_w1_g, r_w1_g, t_w1_g, p_w1_g⟩ := bq hb1 (g)
      have B1 := (HB.out.alloc _).keep hb1
      go_wp2_with fail
      have c0 := cell_regrown (show w1.cell? ⟨w.heap.size, 0, none⟩ = some (.int .i64 x') from (by go_simp)); have c1 := cell_regrown (show w1.cell? ⟨w.heap.size, 1, none⟩ = some (.int .i64 y') from (by go_simp)); have c2 := cell_regrown (show w1.cell? ⟨w.heap.size, 2, none⟩ = some (.int .i64 a') from (by go_simp)); have c3 := cell_regrown (show w1.cell? ⟨w.heap.size, 3, none⟩ = some (.int .i64 b') from (by go_simp)); have c4 := cell_regrown (show w1.cell? ⟨w.heap.size, 4, none⟩ = some (.int .i64 d') from (by go_simp))
      have m0 := cell_regrown (show w1.cell? ⟨g, 0, none⟩ = some (.int .i64 m) from (by go_simp))
      refine wp_region_quiet_below (by kernel_rfl) (by kernel_rfl) ?_
      repeat (go_big_quiet_step (first | (go_at_call 15; exact Calls.regrown_of (trace_v _ _ _ _ _ _ HT.out _))))
      refine wpQuiet_nil ?_
      intro wq hwq
      have hbq := below_of_regrown hwq
      have B2 := B1.keep hbq
      have z_wq := hbq.size; (try simp at z_wq); obtain ⟨y_wq_0_0, c_wq_0_0, f_wq_0_0, r_wq_0_0, t_wq_0_0, p_wq_0_0⟩ := bq hbq (w.heap.size); obtain ⟨y_wq_g, c_wq_g, f_wq_g, r_wq_g, t_wq_g, p_wq_g⟩ := bq hbq (g)
      clear hwq
      go_wp2_with fail
      go_region
      go_wp2_with fail
      go_ret
      refine ⟨_, _, _, E.out, rfl, (by repeat (first | with_reducible exact OnlyAt.refl | with_reducible refine OnlyAt.drew ?_ | with_reducible refine OnlyAt.setCell ?_ _ _ | (with_reducible refine OnlyAt.setNew ?_ ?hB _ _; case hB => (first | omega | (simp; done) | (simp; omega))) | with_reducible refine OnlyAt.alloc ?_ _ | with_reducible refine OnlyAt.trans ?_ (OnlyAt.of_below (by assumption)) | with_reducible refine OnlyAt.trans ?_ (by assumption))), ?_⟩
      apply Blk.of_eq
      · repeat (first | with_reducible exact B2 | with_reducible apply Blk.drew | with_reducible apply blk_drewN | with_reducible apply Blk.setCell_same)
      · first | rfl | trace_state
end Go.Proofs.YtilginoibhfeiaaGreat
namespace Go.Proofs.YtilginoibhfeiaaGreat
open Go.RowKit

theorem set_v (g : Nat) (m : Int) (v : Bool) (x y a b d x' y' a' b' d' : Int) (v1 : Bool) (x1 y1 a1 b1 d1 k : Int) (h : setS m v ⟨x, y, a, b, d⟩ ⟨x', y', a', b', d'⟩ = ((v1, ⟨x1, y1, a1, b1, d1⟩), k)) (w : World) (B : Blk w g (flt m v x y a b d) 112) :
    Calls Tryz.prog 25 #[.pointer (some ⟨g, 0, none⟩), elC x' y' a' b' d'] w fun e w' => e = .returned (.int .i64 k) ∧ OnlyAt g w w' ∧ Blk w' g (flt m v1 x1 y1 a1 b1 d1) 112 := by
  refine (set_c g m v x y a b d x' y' a' b' d' w B).mono ?_
  rintro e w' ⟨v2, e2, k2, hs, he, ho, hb⟩
  rw [h] at hs
  injection hs with h1 h2
  injection h1 with h3 h4
  subst h2; subst h3; subst h4
  exact ⟨he, ho, hb⟩
theorem bk_o {w : World} {b : Nat} {c : Array Value} {t : TypeId} (h : Blk w b c t) :
    b < w.heap.size ∧ (∀ o, w.cell? ⟨b, o, none⟩ = c[o]?) ∧ (∀ o, w.frozen? ⟨b, o, none⟩ = false) ∧ w.row? b 0 c.size = some c :=
  ⟨h.lt, h.at, h.frozen, h.row?_all _ rfl⟩
theorem el_cells {w : World} {g : Nat} {x y a b d : Int} {t : TypeId} (C : Blk w g #[.int .i64 x, .int .i64 y, .int .i64 a, .int .i64 b, .int .i64 d] t) :
    w.cell? ⟨g, 0, none⟩ = some (.int .i64 x) ∧ w.cell? ⟨g, 1, none⟩ = some (.int .i64 y) ∧ w.cell? ⟨g, 2, none⟩ = some (.int .i64 a) ∧ w.cell? ⟨g, 3, none⟩ = some (.int .i64 b) ∧ w.cell? ⟨g, 4, none⟩ = some (.int .i64 d) :=
  ⟨C.cell rfl, C.cell rfl, C.cell rfl, C.cell rfl, C.cell rfl⟩
set_option maxRecDepth 100000 in
set_option maxHeartbeats 4000000 in
theorem awake18_c (w : World) : Calls Tryz.prog 24 #[] w fun e w' => e = .returned (.bool true) ∧ Below w.heap.size w w' := by
  have h8 : Hid (ballE 0 0 8 = (⟨0, 0, 64, 0, 64⟩, 0)) := show _ = _ from rfl
  have h7 : Hid (ballE 0 0 7 = (⟨0, 0, 49, 0, 49⟩, 0)) := show _ = _ from rfl
  have s1 : Hid (setS 100 false ⟨0, 0, 0, 0, 0⟩ ⟨0, 0, 64, 0, 64⟩ = ((false, ⟨0, 0, 0, 0, 0⟩), 2)) := show _ = _ from by
    unfold setS; rw [if_pos (by decide), if_pos (by decide)]
  have s2 : Hid (setS 100 false ⟨0, 0, 0, 0, 0⟩ ⟨0, 0, 49, 0, 49⟩ = ((true, ⟨0, 0, 49, 0, 49⟩), 0)) := show _ = _ from by
    unfold setS; rw [if_pos (by decide), if_neg (by decide)]
  go_enter Tryz.func24, Tryz.ntmps24
  go_wp2_with fail
  refine (new_c _ _).mono ?_; rintro e w1 ⟨g, rfl, lg, B1, hb1⟩
  rw [show max (2 : Int) 100 = 100 by decide] at B1
  have z1 := hb1.size
  have HB1 := Lib.hid B1
  clear B1
  go_wp2_with fail
  refine (ellball_v _ _ _ _ _ _ _ _ _ h8.out _).mono ?_; rintro e w2 ⟨rfl, hb2⟩
  have HB2 := Lib.hid (HB1.out.keep hb2)
  have HL2 : Hid (Below w.heap.size w w2) := (show Below _ _ _ from below_byR)
  have z2 : w.heap.size ≤ w2.heap.size := HL2.out.size
  clear hb1 hb2
  go_wp2_with fail
  refine (ellball_v _ _ _ _ _ _ _ _ _ h7.out _).mono ?_; rintro e w3 ⟨rfl, hb3⟩
  have B8 : Hid (Blk w3 w2.heap.size #[.int .i64 0, .int .i64 0, .int .i64 64, .int .i64 0, .int .i64 64] 27) := (Blk.new _ _ _).keep hb3
  have HB3 := Lib.hid ((HB2.out.alloc _).keep hb3)
  have HL3 : Hid (Below w.heap.size w w3) := (show Below _ _ _ from below_byR)
  have z3 := hb3.size; (try simp at z3)
  clear hb3
  have lg3 := HB2.out.lt
  have ng : ¬ (w2.heap.size = g) := by omega
  have ng3 : ¬ (w3.heap.size = g) := by omega
  obtain ⟨w4, hw4⟩ : ∃ w4, w4 = w3.alloc (Obj.cells #[.int .i64 0, .int .i64 0, .int .i64 49, .int .i64 0, .int .i64 49] 27) := ⟨_, rfl⟩
  go_wp2_with fail
  rw [← hw4]
  have B7 : Hid (Blk w4 w3.heap.size #[.int .i64 0, .int .i64 0, .int .i64 49, .int .i64 0, .int .i64 49] 27) := by rw [hw4]; exact Blk.new _ _ _
  have B8' : Hid (Blk w4 w2.heap.size #[.int .i64 0, .int .i64 0, .int .i64 64, .int .i64 0, .int .i64 64] 27) := by rw [hw4]; exact B8.out.alloc _
  have HB4 : Hid (Blk w4 g (flt 100 false 0 0 0 0 0) 112) := by rw [hw4]; exact HB3.out.alloc _
  have HL4 : Hid (Below w.heap.size w w4) := by rw [hw4]; exact (show Below _ _ _ from below_byR)
  clear hw4 B8
  have C8 := B8'.out
  have C7 := B7.out
  have CG := HB4.out
  have CO : OnlyAt g w4 w4 := OnlyAt.refl
  have r8 := el_cells C8
  have r7 := el_cells C7
  go_region_held3 (fun w' => (w'.cell? ⟨w2.heap.size, 0, none⟩ = some (.int .i64 0) ∧ w'.cell? ⟨w2.heap.size, 1, none⟩ = some (.int .i64 0) ∧ w'.cell? ⟨w2.heap.size, 2, none⟩ = some (.int .i64 64) ∧ w'.cell? ⟨w2.heap.size, 3, none⟩ = some (.int .i64 0) ∧ w'.cell? ⟨w2.heap.size, 4, none⟩ = some (.int .i64 64)) ∧ (w'.cell? ⟨w3.heap.size, 0, none⟩ = some (.int .i64 0) ∧ w'.cell? ⟨w3.heap.size, 1, none⟩ = some (.int .i64 0) ∧ w'.cell? ⟨w3.heap.size, 2, none⟩ = some (.int .i64 49) ∧ w'.cell? ⟨w3.heap.size, 3, none⟩ = some (.int .i64 0) ∧ w'.cell? ⟨w3.heap.size, 4, none⟩ = some (.int .i64 49))) (first | exact ⟨r8, r7⟩ | go_simp)
    (first | (go_at_call 25; refine Calls.mono (set_v _ _ _ _ _ _ _ _ _ _ _ _ _ _ _ _ _ _ _ _ (by first | with_reducible exact s1.out | with_reducible exact s2.out) _ (by exact CG)) ?_; rintro e w5 ⟨rfl, ho5, CG⟩; have CO : OnlyAt g w4 w5 := (by first | exact OnlyAt.trans CO ho5 | exact OnlyAt.trans (OnlyAt.drew CO) ho5); have C8 : Blk w5 w2.heap.size #[.int .i64 0, .int .i64 0, .int .i64 64, .int .i64 0, .int .i64 64] 27 := (by first | exact OnlyAt.blk ho5 C8 ng | exact OnlyAt.blk ho5 (Blk.drew C8) ng); have C7 : Blk w5 w3.heap.size #[.int .i64 0, .int .i64 0, .int .i64 49, .int .i64 0, .int .i64 49] 27 := (by first | exact OnlyAt.blk ho5 C7 ng3 | exact OnlyAt.blk ho5 (Blk.drew C7) ng3); have r8 := el_cells C8; have r7 := el_cells C7))
  have BEL5 : Below w.heap.size w w5 := OnlyAt.below CO HL4.out (Nat.le_refl _) lg
  have z5 := BEL5.size
  obtain ⟨wz, hwz⟩ : ∃ wz, wz = w5 := ⟨_, rfl⟩
  go_wp2_with fail
  have s0 := cell_regrown (C7.cell (i := 0) rfl)
  have s1 := cell_regrown (C7.cell (i := 1) rfl)
  have s2 := cell_regrown (C7.cell (i := 2) rfl)
  have s3 := cell_regrown (C7.cell (i := 3) rfl)
  have s4 := cell_regrown (C7.cell (i := 4) rfl)
  refine wp_region_quiet_below (by kernel_rfl) (by kernel_rfl) ?_
  repeat (go_big_quiet_step (first
    | (go_at_call 29; exact Calls.regrown_of (valid_c _ _ _ _ _ _ _ _ _ (Blk.keep CG (below_regrown _ _ _))))
    | (go_at_call 30; exact Calls.regrown_of (e_c _ _ _ _ _ _ _ _ _ (Blk.keep CG (below_regrown _ _ _))))))
  refine wpQuiet_nil ?_
  intro wq hwq
  have hbq := below_of_regrown hwq
  clear hwq
  go_wp2
  go_ret
  exact ⟨rfl, Below.trans BEL5 (hbq.mono z5)⟩
end Go.Proofs.YtilginoibhfeiaaGreat
namespace Go.Proofs.YtilginoibhfeiaaGreat
open Go.RowKit

/-- Move: the filter's state and the answer. -/
def moveS (m : Int) (v : Bool) (e : El) (u w r : Int) : (Bool × El) × Int :=
  if v = true then
    if (shiftE e u w).2 = 0 then
      if (growE (shiftE e u w).1 r).2 = 0 then
        if (setS m v e (growE (shiftE e u w).1 r).1).2 = 2 then ((false, El.zero), 2) else setS m v e (growE (shiftE e u w).1 r).1
      else if (growE (shiftE e u w).1 r).2 = 2 then ((false, El.zero), 2) else ((v, e), (growE (shiftE e u w).1 r).2)
    else if (shiftE e u w).2 = 2 then ((false, El.zero), 2) else ((v, e), (shiftE e u w).2)
  else ((v, e), 10)
theorem move_cases (m : Int) (e s g : El) (u w r ks kg : Int) (h1 : shiftE e u w = (s, ks)) (h2 : growE s r = (g, kg)) :
    (¬ ks = 0 ∧ ¬ ks = 2 ∧ moveS m true e u w r = ((true, e), ks)) ∨ (ks = 2 ∧ moveS m true e u w r = ((false, El.zero), 2)) ∨ (ks = 0 ∧ ¬ kg = 0 ∧ ¬ kg = 2 ∧ moveS m true e u w r = ((true, e), kg)) ∨ (ks = 0 ∧ kg = 2 ∧ moveS m true e u w r = ((false, El.zero), 2)) ∨
      (ks = 0 ∧ kg = 0 ∧ (setS m true e g).2 = 2 ∧ moveS m true e u w r = ((false, El.zero), 2)) ∨ (ks = 0 ∧ kg = 0 ∧ ¬ (setS m true e g).2 = 2 ∧ moveS m true e u w r = setS m true e g) := by
  unfold moveS
  rw [if_pos rfl, h1]
  simp only
  rw [h2]
  simp only
  by_cases a : ks = 0
  · right; right
    rw [if_pos a]
    by_cases b : kg = 0
    · right; right
      rw [if_pos b]
      by_cases c : (setS m true e g).2 = 2
      · left; exact ⟨a, b, c, by rw [if_pos c]⟩
      · right; exact ⟨a, b, c, by rw [if_neg c]⟩
    · rw [if_neg b]
      by_cases c : kg = 2
      · right; left; exact ⟨a, c, by rw [if_pos c]⟩
      · left; exact ⟨a, b, c, by rw [if_neg c]⟩
  · rw [if_neg a]
    by_cases b : ks = 2
    · right; left; exact ⟨b, by rw [if_pos b]⟩
    · left; exact ⟨a, b, by rw [if_neg b]⟩
theorem flt_cells {w : World} {g : Nat} {m : Int} {v : Bool} {x y a b d : Int} {t : TypeId} (B : Blk w g (flt m v x y a b d) t) :
    w.cell? ⟨g, 2, none⟩ = some (.int .i64 x) ∧ w.cell? ⟨g, 3, none⟩ = some (.int .i64 y) ∧ w.cell? ⟨g, 4, none⟩ = some (.int .i64 a) ∧ w.cell? ⟨g, 5, none⟩ = some (.int .i64 b) ∧ w.cell? ⟨g, 6, none⟩ = some (.int .i64 d) :=
  ⟨B.cell rfl, B.cell rfl, B.cell rfl, B.cell rfl, B.cell rfl⟩
theorem pt_cells {w : World} {g : Nat} {x y : Int} {t : TypeId} (B : Blk w g #[.int .i64 x, .int .i64 y] t) : w.cell? ⟨g, 0, none⟩ = some (.int .i64 x) ∧ w.cell? ⟨g, 1, none⟩ = some (.int .i64 y) := ⟨B.cell rfl, B.cell rfl⟩
set_option maxRecDepth 100000 in
set_option maxHeartbeats 8000000 in
theorem move_c (g : Nat) (m : Int) (v : Bool) (x y a b d ux uy r : Int) (w : World) (B : Blk w g (flt m v x y a b d) 112) :
    Calls Tryz.prog 26 #[.pointer (some ⟨g, 0, none⟩), ptV ux uy, .int .i64 r] w fun e w' => ∃ v1 e1 k, moveS m v ⟨x, y, a, b, d⟩ ux uy r = ((v1, e1), k) ∧ e = .returned (.int .i64 k) ∧ OnlyAt g w w' ∧ Blk w' g (flt m v1 e1.x e1.y e1.a e1.b e1.d) 112 := by
  have lg := B.lt
  cases v with
  | false =>
    have E : Hid (moveS m false ⟨x, y, a, b, d⟩ ux uy r = ((false, ⟨x, y, a, b, d⟩), 10)) := rfl
    have HB := Lib.hid B
    obtain ⟨y1, c1, f1, -⟩ := bk_o B
    clear B
    go_enter Tryz.func26, Tryz.ntmps26
    go_wp2_with fail
    go_ret
    exact ⟨_, _, _, E.out, rfl, (by repeat (first | with_reducible exact OnlyAt.refl | with_reducible refine OnlyAt.drew ?_ | with_reducible refine OnlyAt.setCell ?_ _ _ | (with_reducible refine OnlyAt.setNew ?_ ?hB _ _; case hB => (first | omega | (simp; done) | (simp; omega))) | with_reducible refine OnlyAt.alloc ?_ _ | with_reducible refine OnlyAt.trans ?_ (OnlyAt.of_below (by assumption)) | with_reducible refine OnlyAt.trans ?_ (by assumption))), HB.out.alloc _⟩
  | true =>
    obtain ⟨⟨sx, sy, sa, sb, sd⟩, ks, hs⟩ : ∃ o k, shiftE ⟨x, y, a, b, d⟩ ux uy = (o, k) := ⟨_, _, rfl⟩
    obtain ⟨⟨gx, gy, ga, gb, gd⟩, kg, hg⟩ : ∃ o k, growE ⟨sx, sy, sa, sb, sd⟩ r = (o, k) := ⟨_, _, rfl⟩
    have MC := Lib.hid (move_cases m _ _ _ ux uy r ks kg hs hg)
    have HS := Lib.hid hs
    have HG := Lib.hid hg
    have HB := Lib.hid B
    clear hs hg
    obtain ⟨y1, c1, f1, -⟩ := bk_o B
    go_enter Tryz.func26, Tryz.ntmps26
    obtain ⟨w1, hw1⟩ : ∃ w1, w1 = w.alloc (Obj.cells #[.int .i64 ux, .int .i64 uy] 23) := ⟨_, rfl⟩
    go_wp2_with fail
    rw [← hw1]
    have BG : Hid (Blk w1 g (flt m true x y a b d) 112) := by rw [hw1]; exact HB.out.alloc _
    have BU : Hid (Blk w1 w.heap.size #[.int .i64 ux, .int .i64 uy] 23) := by rw [hw1]; exact Blk.new _ _ _
    have HL : Hid (Below w.heap.size w w1) := by rw [hw1]; exact (show Below _ _ _ from below_byR)
    have sz1 : w.heap.size < w1.heap.size := by rw [hw1]; simp
    clear hw1 y1 c1 f1 B
    go_cut [7, 8] from 9 (fun s7 s8 wc => ∃ h, s7 = .pointer (some ⟨h, 0, none⟩) ∧ s8 = .int .i64 ks ∧ w1.heap.size ≤ h ∧ Hid (Blk wc h #[.int .i64 sx, .int .i64 sy, .int .i64 sa, .int .i64 sb, .int .i64 sd] 27) ∧ Hid (Below w1.heap.size w1 wc))
    case first =>
      have XX : Blk w1 g (flt m true x y a b d) 112 := BG.out
      have XU : Blk w1 w.heap.size #[.int .i64 ux, .int .i64 uy] 23 := BU.out
      have r1 := flt_cells XX
      have r2 := pt_cells XU
      go_region_held3 (fun w' => (w'.cell? ⟨g, 2, none⟩ = some (.int .i64 x) ∧ w'.cell? ⟨g, 3, none⟩ = some (.int .i64 y) ∧ w'.cell? ⟨g, 4, none⟩ = some (.int .i64 a) ∧ w'.cell? ⟨g, 5, none⟩ = some (.int .i64 b) ∧ w'.cell? ⟨g, 6, none⟩ = some (.int .i64 d)) ∧ (w'.cell? ⟨w.heap.size, 0, none⟩ = some (.int .i64 ux) ∧ w'.cell? ⟨w.heap.size, 1, none⟩ = some (.int .i64 uy))) (first | with_reducible exact ⟨r1, r2⟩ | (refine ⟨?_, ?_⟩; (focus (with_reducible refine flt_cells (m := m) (v := true) (t := 112) ?_; (repeat (first | with_reducible exact XX | with_reducible refine Blk.drew ?_ | with_reducible refine Blk.alloc ?_ _)))); (focus (with_reducible refine pt_cells (t := 23) ?_; (repeat (first | with_reducible exact XU | with_reducible refine Blk.drew ?_ | with_reducible refine Blk.alloc ?_ _)))); done) | go_simp)
        (first
          | (go_at_call 79; refine (shift_v _ _ _ _ _ _ _ _ _ _ _ _ _ HS.out _).mono ?_; rintro e w4 ⟨rfl, hb4⟩; have XX : Blk w4 g (flt m true x y a b d) 112 := (by (with_reducible refine Blk.keep ?_ hb4); (repeat (first | with_reducible exact XX | with_reducible refine Blk.drew ?_ | with_reducible refine Blk.alloc ?_ _))); have XU : Blk w4 w.heap.size #[.int .i64 ux, .int .i64 uy] 23 := (by (with_reducible refine Blk.keep ?_ hb4); (repeat (first | with_reducible exact XU | with_reducible refine Blk.drew ?_ | with_reducible refine Blk.alloc ?_ _))); have r1 := flt_cells XX; have r2 := pt_cells XU; have z_w4 := hb4.size; (try simp at z_w4); (try (refine with_imp (bk hb4 (w1.heap.size)) ?_ ?_; (focus (first | omega | (simp; done) | (simp; omega))); rintro ⟨y_w4_q0, c_w4_q0, f_w4_q0, r_w4_q0, t_w4_q0, p_w4_q0⟩))))
      all_goals go_wp2_with fail
      all_goals go_meet
      all_goals refine ⟨_, rfl, rfl, (by first | omega | (simp; done) | (simp; omega) | fail), ?_, ?_⟩
      all_goals first
        | (show Below _ _ _; exact below_byR)
        | (show Blk _ _ _ _; apply Blk.of_eq; (focus (repeat (first | with_reducible exact Blk.new _ _ _ | with_reducible apply Blk.drew | with_reducible apply Blk.setCell_same | with_reducible apply Blk.keep (hb := hb4) | with_reducible apply Blk.alloc))); rfl)
    case rest =>
      obtain ⟨h, rfl, rfl, lh, BH, HC⟩ := hcut
      have CG := Lib.hid (BG.out.keep HC.out)
      have HW : Hid (Below w.heap.size w wc) := Below.trans HL.out (HC.out.mono HL.out.size)
      have szc := HW.out.size
      have ngh : ¬ (g = h) := by omega
      have nhg : ¬ (h = g) := by omega
      obtain ⟨y1, c1, f1, -⟩ := bk_o CG.out
      obtain ⟨y2, c2, f2, -⟩ := bk_o BH.out
      clear BG BU HL HC HB HS
      rcases MC.out with ⟨k0, k2, hv⟩ | ⟨rfl, hv⟩ | ⟨rfl, k0, k2, hv⟩ | ⟨rfl, rfl, hv⟩ | ⟨rfl, rfl, k2, hv⟩ | ⟨rfl, rfl, k2, hv⟩
      · have EV := Lib.hid hv
        have b0 : (ks == 0) = false := by simp [k0]
        have b2 : (ks == 2) = false := by simp [k2]
        clear hv MC
        go_wp2_with fail
        go_ret
        exact ⟨_, _, _, EV.out, rfl, OnlyAt.of_below HW.out, CG.out⟩
      · have EV := Lib.hid hv
        clear hv MC
        go_wp2_with fail
        refine Calls.mono (lose_c g m _ _ _ _ _ _ _ CG.out) ?_; rintro e w9 ⟨rfl, ho9, hb9⟩
        go_wp2_with fail
        go_ret
        exact ⟨_, _, _, EV.out, rfl, (OnlyAt.of_below HW.out).trans ho9, hb9⟩
      · have EV := Lib.hid hv
        have b0 : (kg == 0) = false := by simp [k0]
        have b2 : (kg == 2) = false := by simp [k2]
        clear hv MC
        go_wp2_with fail
        refine (growball_v _ _ _ _ _ _ _ _ _ _ _ _ HG.out _).mono ?_; rintro e w2 ⟨rfl, hb2⟩
        obtain ⟨v2, hv2⟩ : ∃ v2, v2 = (((((w2).setCell ⟨h, 0, none⟩ (.int .i64 gx)).setCell ⟨h, 1, none⟩ (.int .i64 gy)).setCell ⟨h, 2, none⟩ (.int .i64 ga)).setCell ⟨h, 3, none⟩ (.int .i64 gb)).setCell ⟨h, 4, none⟩ (.int .i64 gd) := ⟨_, rfl⟩
        have sz2 := hb2.size
        obtain ⟨y4, c4, f4, -⟩ := bk_o (BH.out.keep hb2)
        have CH : Hid (Blk v2 g (flt m true x y a b d) 112) := by rw [hv2]; exact ((((((CG.out.keep hb2).setCell_other (a := ⟨h, 0, none⟩) ngh _).setCell_other (a := ⟨h, 1, none⟩) ngh _).setCell_other (a := ⟨h, 2, none⟩) ngh _).setCell_other (a := ⟨h, 3, none⟩) ngh _).setCell_other (a := ⟨h, 4, none⟩) ngh _)
        have BH2 : Hid (Blk v2 h #[.int .i64 gx, .int .i64 gy, .int .i64 ga, .int .i64 gb, .int .i64 gd] 27) := by rw [hv2]; exact ((((((BH.out.keep hb2).setCell_same 0 _).setCell_same 1 _).setCell_same 2 _).setCell_same 3 _).setCell_same 4 _).of_eq rfl
        have HW2 : Hid (OnlyAt g w v2) := by rw [hv2]; exact OnlyAt.of_below (show Below _ _ _ from (by have hbw := HW.out; exact below_byR))
        clear hv2
        go_wp2_with fail
        go_ret
        exact ⟨_, _, _, EV.out, rfl, OnlyAt.of_below (show Below _ _ _ from (by have hbw := HW.out; exact below_byR)), ((((((CG.out.keep hb2).setCell_other (a := ⟨h, 0, none⟩) ngh _).setCell_other (a := ⟨h, 1, none⟩) ngh _).setCell_other (a := ⟨h, 2, none⟩) ngh _).setCell_other (a := ⟨h, 3, none⟩) ngh _).setCell_other (a := ⟨h, 4, none⟩) ngh _)⟩
      · have EV := Lib.hid hv
        clear hv MC
        go_wp2_with fail
        refine (growball_v _ _ _ _ _ _ _ _ _ _ _ _ HG.out _).mono ?_; rintro e w2 ⟨rfl, hb2⟩
        obtain ⟨v2, hv2⟩ : ∃ v2, v2 = (((((w2).setCell ⟨h, 0, none⟩ (.int .i64 gx)).setCell ⟨h, 1, none⟩ (.int .i64 gy)).setCell ⟨h, 2, none⟩ (.int .i64 ga)).setCell ⟨h, 3, none⟩ (.int .i64 gb)).setCell ⟨h, 4, none⟩ (.int .i64 gd) := ⟨_, rfl⟩
        have sz2 := hb2.size
        obtain ⟨y4, c4, f4, -⟩ := bk_o (BH.out.keep hb2)
        have CH : Hid (Blk v2 g (flt m true x y a b d) 112) := by rw [hv2]; exact ((((((CG.out.keep hb2).setCell_other (a := ⟨h, 0, none⟩) ngh _).setCell_other (a := ⟨h, 1, none⟩) ngh _).setCell_other (a := ⟨h, 2, none⟩) ngh _).setCell_other (a := ⟨h, 3, none⟩) ngh _).setCell_other (a := ⟨h, 4, none⟩) ngh _)
        have BH2 : Hid (Blk v2 h #[.int .i64 gx, .int .i64 gy, .int .i64 ga, .int .i64 gb, .int .i64 gd] 27) := by rw [hv2]; exact ((((((BH.out.keep hb2).setCell_same 0 _).setCell_same 1 _).setCell_same 2 _).setCell_same 3 _).setCell_same 4 _).of_eq rfl
        have HW2 : Hid (OnlyAt g w v2) := by rw [hv2]; exact OnlyAt.of_below (show Below _ _ _ from (by have hbw := HW.out; exact below_byR))
        go_wp2_with fail
        rw [← hv2]
        refine Calls.mono (lose_c g m _ _ _ _ _ _ _ CH.out) ?_; rintro e w9 ⟨rfl, ho9, hb9⟩
        go_wp2_with fail
        go_ret
        exact ⟨_, _, _, EV.out, rfl, HW2.out.trans ho9, hb9⟩
      · obtain ⟨⟨v1, ⟨p1, p2, p3, p4, p5⟩⟩, k, hset⟩ : ∃ o k, setS m true ⟨x, y, a, b, d⟩ ⟨gx, gy, ga, gb, gd⟩ = (o, k) := ⟨_, _, rfl⟩
        (try rw [hset] at k2); (try rw [hset] at hv)
        simp only at k2
        have ES := Lib.hid hset
        subst k2
        have EV := Lib.hid hv
        clear hv MC hset
        go_wp2_with fail
        refine (growball_v _ _ _ _ _ _ _ _ _ _ _ _ HG.out _).mono ?_; rintro e w2 ⟨rfl, hb2⟩
        obtain ⟨v2, hv2⟩ : ∃ v2, v2 = (((((w2).setCell ⟨h, 0, none⟩ (.int .i64 gx)).setCell ⟨h, 1, none⟩ (.int .i64 gy)).setCell ⟨h, 2, none⟩ (.int .i64 ga)).setCell ⟨h, 3, none⟩ (.int .i64 gb)).setCell ⟨h, 4, none⟩ (.int .i64 gd) := ⟨_, rfl⟩
        have sz2 := hb2.size
        obtain ⟨y4, c4, f4, -⟩ := bk_o (BH.out.keep hb2)
        have CH : Hid (Blk v2 g (flt m true x y a b d) 112) := by rw [hv2]; exact ((((((CG.out.keep hb2).setCell_other (a := ⟨h, 0, none⟩) ngh _).setCell_other (a := ⟨h, 1, none⟩) ngh _).setCell_other (a := ⟨h, 2, none⟩) ngh _).setCell_other (a := ⟨h, 3, none⟩) ngh _).setCell_other (a := ⟨h, 4, none⟩) ngh _)
        have BH2 : Hid (Blk v2 h #[.int .i64 gx, .int .i64 gy, .int .i64 ga, .int .i64 gb, .int .i64 gd] 27) := by rw [hv2]; exact ((((((BH.out.keep hb2).setCell_same 0 _).setCell_same 1 _).setCell_same 2 _).setCell_same 3 _).setCell_same 4 _).of_eq rfl
        have HW2 : Hid (OnlyAt g w v2) := by rw [hv2]; exact OnlyAt.of_below (show Below _ _ _ from (by have hbw := HW.out; exact below_byR))
        go_wp2_with fail
        rw [← hv2]
        clear hv2 c4 f4 c1 f1 c2 f2
        refine Calls.mono (set_v _ _ _ _ _ _ _ _ _ _ _ _ _ _ _ _ _ _ _ _ ES.out _ CH.out) ?_; rintro e w5 ⟨rfl, ho5, hb5⟩
        go_wp2_with fail
        refine Calls.mono (lose_c g m _ _ _ _ _ _ _ hb5) ?_; rintro e w9 ⟨rfl, ho9, hb9⟩
        go_wp2_with fail
        go_ret
        exact ⟨_, _, _, EV.out, rfl, (HW2.out.trans ho5).trans ho9, hb9⟩
      · obtain ⟨⟨v1, ⟨p1, p2, p3, p4, p5⟩⟩, k, hset⟩ : ∃ o k, setS m true ⟨x, y, a, b, d⟩ ⟨gx, gy, ga, gb, gd⟩ = (o, k) := ⟨_, _, rfl⟩
        (try rw [hset] at k2); (try rw [hset] at hv)
        simp only at k2
        have ES := Lib.hid hset
        have EV := Lib.hid hv
        have b2 : (k == 2) = false := by simp [k2]
        clear hv MC hset
        go_wp2_with fail
        refine (growball_v _ _ _ _ _ _ _ _ _ _ _ _ HG.out _).mono ?_; rintro e w2 ⟨rfl, hb2⟩
        obtain ⟨v2, hv2⟩ : ∃ v2, v2 = (((((w2).setCell ⟨h, 0, none⟩ (.int .i64 gx)).setCell ⟨h, 1, none⟩ (.int .i64 gy)).setCell ⟨h, 2, none⟩ (.int .i64 ga)).setCell ⟨h, 3, none⟩ (.int .i64 gb)).setCell ⟨h, 4, none⟩ (.int .i64 gd) := ⟨_, rfl⟩
        have sz2 := hb2.size
        obtain ⟨y4, c4, f4, -⟩ := bk_o (BH.out.keep hb2)
        have CH : Hid (Blk v2 g (flt m true x y a b d) 112) := by rw [hv2]; exact ((((((CG.out.keep hb2).setCell_other (a := ⟨h, 0, none⟩) ngh _).setCell_other (a := ⟨h, 1, none⟩) ngh _).setCell_other (a := ⟨h, 2, none⟩) ngh _).setCell_other (a := ⟨h, 3, none⟩) ngh _).setCell_other (a := ⟨h, 4, none⟩) ngh _)
        have BH2 : Hid (Blk v2 h #[.int .i64 gx, .int .i64 gy, .int .i64 ga, .int .i64 gb, .int .i64 gd] 27) := by rw [hv2]; exact ((((((BH.out.keep hb2).setCell_same 0 _).setCell_same 1 _).setCell_same 2 _).setCell_same 3 _).setCell_same 4 _).of_eq rfl
        have HW2 : Hid (OnlyAt g w v2) := by rw [hv2]; exact OnlyAt.of_below (show Below _ _ _ from (by have hbw := HW.out; exact below_byR))
        go_wp2_with fail
        rw [← hv2]
        clear hv2 c4 f4 c1 f1 c2 f2
        refine Calls.mono (set_v _ _ _ _ _ _ _ _ _ _ _ _ _ _ _ _ _ _ _ _ ES.out _ CH.out) ?_; rintro e w5 ⟨rfl, ho5, hb5⟩
        go_wp2_with fail
        go_ret
        exact ⟨_, _, _, EV.out, rfl, HW2.out.trans ho5, hb5⟩
end Go.Proofs.YtilginoibhfeiaaGreat
namespace Go.Proofs.YtilginoibhfeiaaGreat
open Go.RowKit

def takeS (v : Bool) (e f : El) (k : Int) : (Bool × El) × Int := if k = 0 then ((v, f), 0) else if k = 3 then ((false, El.zero), 3) else ((v, e), k)
set_option maxRecDepth 100000 in
set_option maxHeartbeats 4000000 in
theorem take_c (g : Nat) (m : Int) (v : Bool) (x y a b d x' y' a' b' d' k : Int) (w : World) (B : Blk w g (flt m v x y a b d) 112) :
    Calls Tryz.prog 82 #[.pointer (some ⟨g, 0, none⟩), elC x' y' a' b' d', .int .i64 k] w fun e w' => ∃ v1 e1 k1, takeS v ⟨x, y, a, b, d⟩ ⟨x', y', a', b', d'⟩ k = ((v1, e1), k1) ∧ e = .returned (.int .i64 k1) ∧ OnlyAt g w w' ∧ Blk w' g (flt m v1 e1.x e1.y e1.a e1.b e1.d) 112 := by
  have HB := Lib.hid B
  obtain ⟨y1, c1, f1, -⟩ := bk_o B
  have lg := B.lt
  by_cases k0 : k = 0
  · subst k0
    have E : Hid (takeS v ⟨x, y, a, b, d⟩ ⟨x', y', a', b', d'⟩ 0 = ((v, ⟨x', y', a', b', d'⟩), 0)) := rfl
    clear B
    go_enter Tryz.func82, Tryz.ntmps82
    go_wp2_with fail
    go_ret
    refine ⟨_, _, _, E.out, rfl, (by repeat (first | with_reducible exact OnlyAt.refl | with_reducible refine OnlyAt.drew ?_ | with_reducible refine OnlyAt.setCell ?_ _ _ | (with_reducible refine OnlyAt.setNew ?_ ?hB _ _; case hB => (first | omega | (simp; done) | (simp; omega))) | with_reducible refine OnlyAt.alloc ?_ _ | with_reducible refine OnlyAt.trans ?_ (OnlyAt.of_below (by assumption)) | with_reducible refine OnlyAt.trans ?_ (by assumption))), ?_⟩
    apply Blk.of_eq
    · repeat (first | with_reducible exact HB.out | with_reducible apply Blk.drew | with_reducible apply Blk.setCell_same | with_reducible apply Blk.alloc)
    · rfl
  · by_cases k3 : k = 3
    · subst k3
      have E : Hid (takeS v ⟨x, y, a, b, d⟩ ⟨x', y', a', b', d'⟩ 3 = ((false, El.zero), 3)) := rfl
      clear B
      go_enter Tryz.func82, Tryz.ntmps82
      go_wp2_with fail
      refine Calls.mono (lose_c g m _ _ _ _ _ _ _ (HB.out.alloc _)) ?_; rintro e w9 ⟨rfl, ho9, hb9⟩
      go_wp2_with fail
      go_ret
      exact ⟨_, _, _, E.out, rfl, (by repeat (first | with_reducible exact OnlyAt.refl | with_reducible refine OnlyAt.drew ?_ | with_reducible refine OnlyAt.setCell ?_ _ _ | (with_reducible refine OnlyAt.setNew ?_ ?hB _ _; case hB => (first | omega | (simp; done) | (simp; omega))) | with_reducible refine OnlyAt.alloc ?_ _ | with_reducible refine OnlyAt.trans ?_ (OnlyAt.of_below (by assumption)) | with_reducible refine OnlyAt.trans ?_ (by assumption))), hb9⟩
    · have E : Hid (takeS v ⟨x, y, a, b, d⟩ ⟨x', y', a', b', d'⟩ k = ((v, ⟨x, y, a, b, d⟩), k)) := show _ = _ from by unfold takeS; rw [if_neg k0, if_neg k3]
      have b0 : (k == 0) = false := by simp [k0]
      have b3 : (k == 3) = false := by simp [k3]
      clear B
      go_enter Tryz.func82, Tryz.ntmps82
      go_wp2_with fail
      go_ret
      exact ⟨_, _, _, E.out, rfl, (by repeat (first | with_reducible exact OnlyAt.refl | with_reducible refine OnlyAt.drew ?_ | with_reducible refine OnlyAt.setCell ?_ _ _ | (with_reducible refine OnlyAt.setNew ?_ ?hB _ _; case hB => (first | omega | (simp; done) | (simp; omega))) | with_reducible refine OnlyAt.alloc ?_ _ | with_reducible refine OnlyAt.trans ?_ (OnlyAt.of_below (by assumption)) | with_reducible refine OnlyAt.trans ?_ (by assumption))), HB.out.alloc _⟩
theorem take_v (g : Nat) (m : Int) (v : Bool) (x y a b d x' y' a' b' d' k : Int) (v1 : Bool) (x1 y1 a1 b1 d1 k1 : Int) (h : takeS v ⟨x, y, a, b, d⟩ ⟨x', y', a', b', d'⟩ k = ((v1, ⟨x1, y1, a1, b1, d1⟩), k1)) (w : World) (B : Blk w g (flt m v x y a b d) 112) :
    Calls Tryz.prog 82 #[.pointer (some ⟨g, 0, none⟩), elC x' y' a' b' d', .int .i64 k] w fun e w' => e = .returned (.int .i64 k1) ∧ OnlyAt g w w' ∧ Blk w' g (flt m v1 x1 y1 a1 b1 d1) 112 := by
  refine (take_c g m v x y a b d x' y' a' b' d' k w B).mono ?_
  rintro e w' ⟨v2, e2, k2, hs, he, ho, hb⟩
  rw [h] at hs
  injection hs with h1 h2
  injection h1 with h3 h4
  subst h2; subst h3; subst h4
  exact ⟨he, ho, hb⟩
def meetS (m : Int) (v : Bool) (e f : El) : (Bool × El) × Int := if v = true then takeS v e (gfuseE e f).1 (gfuseE e f).2 else setS m v e f
set_option maxRecDepth 100000 in
set_option maxHeartbeats 4000000 in
theorem meet_c (g : Nat) (m : Int) (v : Bool) (x y a b d x' y' a' b' d' : Int) (w : World) (B : Blk w g (flt m v x y a b d) 112) :
    Calls Tryz.prog 28 #[.pointer (some ⟨g, 0, none⟩), elC x' y' a' b' d'] w fun e w' => ∃ v1 e1 k1, meetS m v ⟨x, y, a, b, d⟩ ⟨x', y', a', b', d'⟩ = ((v1, e1), k1) ∧ e = .returned (.int .i64 k1) ∧ OnlyAt g w w' ∧ Blk w' g (flt m v1 e1.x e1.y e1.a e1.b e1.d) 112 := by
  have HB := Lib.hid B
  obtain ⟨y1, c1, f1, -⟩ := bk_o B
  have lg := B.lt
  cases v with
  | false =>
    obtain ⟨⟨v1, ⟨p1, p2, p3, p4, p5⟩⟩, k, hset⟩ : ∃ o k, setS m false ⟨x, y, a, b, d⟩ ⟨x', y', a', b', d'⟩ = (o, k) := ⟨_, _, rfl⟩
    have E : Hid (meetS m false ⟨x, y, a, b, d⟩ ⟨x', y', a', b', d'⟩ = ((v1, ⟨p1, p2, p3, p4, p5⟩), k)) := show _ = _ from by unfold meetS; rw [if_neg (by decide)]; exact hset
    have ES := Lib.hid hset
    clear B hset
    go_enter Tryz.func28, Tryz.ntmps28
    go_wp2_with fail
    refine Calls.mono (set_v _ _ _ _ _ _ _ _ _ _ _ _ _ _ _ _ _ _ _ _ ES.out _ (HB.out.alloc _)) ?_; rintro e w5 ⟨rfl, ho5, hb5⟩
    go_wp2_with fail
    go_ret
    exact ⟨_, _, _, E.out, rfl, (by repeat (first | with_reducible exact OnlyAt.refl | with_reducible refine OnlyAt.drew ?_ | with_reducible refine OnlyAt.setCell ?_ _ _ | (with_reducible refine OnlyAt.setNew ?_ ?hB _ _; case hB => (first | omega | (simp; done) | (simp; omega))) | with_reducible refine OnlyAt.alloc ?_ _ | with_reducible refine OnlyAt.trans ?_ (OnlyAt.of_below (by assumption)) | with_reducible refine OnlyAt.trans ?_ (by assumption))), hb5⟩
  | true =>
    obtain ⟨⟨fx, fy, fa, fb, fd⟩, kf, hf⟩ : ∃ o k, gfuseE ⟨x, y, a, b, d⟩ ⟨x', y', a', b', d'⟩ = (o, k) := ⟨_, _, rfl⟩
    obtain ⟨⟨v1, ⟨p1, p2, p3, p4, p5⟩⟩, k, ht⟩ : ∃ o k, takeS true ⟨x, y, a, b, d⟩ ⟨fx, fy, fa, fb, fd⟩ kf = (o, k) := ⟨_, _, rfl⟩
    have E : Hid (meetS m true ⟨x, y, a, b, d⟩ ⟨x', y', a', b', d'⟩ = ((v1, ⟨p1, p2, p3, p4, p5⟩), k)) := show _ = _ from by unfold meetS; rw [if_pos rfl, hf]; exact ht
    have EF := Lib.hid hf
    have ET := Lib.hid ht
    clear B hf ht
    go_enter Tryz.func28, Tryz.ntmps28
    obtain ⟨w1, hw1⟩ : ∃ w1, w1 = w.alloc (Obj.cells #[.int .i64 x', .int .i64 y', .int .i64 a', .int .i64 b', .int .i64 d'] 27) := ⟨_, rfl⟩
    go_wp2_with fail
    rw [← hw1]
    have BG : Hid (Blk w1 g (flt m true x y a b d) 112) := by rw [hw1]; exact HB.out.alloc _
    have BU : Hid (Blk w1 w.heap.size #[.int .i64 x', .int .i64 y', .int .i64 a', .int .i64 b', .int .i64 d'] 27) := by rw [hw1]; exact Blk.new _ _ _
    have HL : Hid (Below w.heap.size w w1) := by rw [hw1]; exact (show Below _ _ _ from below_byR)
    clear hw1 y1 c1 f1 HB
    have r2 := @inw_cell _ _ _ (BG.out.cell (i := 2) rfl)
    have r3 := @inw_cell _ _ _ (BG.out.cell (i := 3) rfl)
    have r4 := @inw_cell _ _ _ (BG.out.cell (i := 4) rfl)
    have r5 := @inw_cell _ _ _ (BG.out.cell (i := 5) rfl)
    have r6 := @inw_cell _ _ _ (BG.out.cell (i := 6) rfl)
    have u0 := @inw_cell _ _ _ (BU.out.cell (i := 0) rfl)
    have u1 := @inw_cell _ _ _ (BU.out.cell (i := 1) rfl)
    have u2 := @inw_cell _ _ _ (BU.out.cell (i := 2) rfl)
    have u3 := @inw_cell _ _ _ (BU.out.cell (i := 3) rfl)
    have u4 := @inw_cell _ _ _ (BU.out.cell (i := 4) rfl)
    refine wp_region_fresh' 9 (fun _ => none) (fun _ => []) (by kernel_rfl) (by kernel_rfl) ?_; refine ex_list ?_; apply Exists.intro; refine ex_list ?_; apply Exists.intro; refine ex_list ?_; apply Exists.intro; refine ex_list ?_; apply Exists.intro; refine ex_list ?_; apply Exists.intro; refine ex_list ?_; apply Exists.intro; refine ex_list ?_; apply Exists.intro; refine ex_list ?_; apply Exists.intro; refine ex_list ?_; apply Exists.intro; refine ⟨[], fun gg NN hN => ?_⟩; simp only [List.take_succ_cons, List.take_zero, List.drop_succ_cons, List.drop_zero]; (repeat (refine lexF_quiet rfl ?_; go_big_quiet_step (first | exact rfl | (first | (go_at_call 51; exact calls_in (gfuse_v _ _ _ _ _ _ _ _ _ _ _ _ _ _ _ _ EF.out _)))); refine wpQuiet_nil ⟨rfl, ?_⟩))
    refine lexF_nil ?_
    intro w2 hb' _ _
    have hb2 : Below w1.heap.size w1 w2 := hb'
    have BG2 := Lib.hid (BG.out.keep hb2)
    clear hb' r2 r3 r4 r5 r6 u0 u1 u2 u3 u4
    go_wp2_with fail
    refine Calls.mono (take_v _ _ _ _ _ _ _ _ _ _ _ _ _ _ _ _ _ _ _ _ _ ET.out _ BG2.out) ?_; rintro e w5 ⟨rfl, ho5, hb5⟩
    go_wp2_with fail
    go_ret
    exact ⟨_, _, _, E.out, rfl, (OnlyAt.of_below (Below.trans HL.out (hb2.mono HL.out.size))).trans ho5, hb5⟩
def rangeS (m : Int) (v : Bool) (e n : El) (lo hi : Int) : (Bool × El) × Int :=
  if v = true then takeS v e (updE e n lo hi).1 (updE e n lo hi).2 else if (acqE n hi).2 = 0 then setS m v e (acqE n hi).1 else ((v, e), (acqE n hi).2)
set_option maxRecDepth 100000 in
set_option maxHeartbeats 4000000 in
theorem range_c (g : Nat) (m : Int) (v : Bool) (x y a b d x' y' a' b' d' lo hi : Int) (w : World) (B : Blk w g (flt m v x y a b d) 112) :
    Calls Tryz.prog 27 #[.pointer (some ⟨g, 0, none⟩), elC x' y' a' b' d', .int .i64 lo, .int .i64 hi] w fun e w' => ∃ v1 e1 k1, rangeS m v ⟨x, y, a, b, d⟩ ⟨x', y', a', b', d'⟩ lo hi = ((v1, e1), k1) ∧ e = .returned (.int .i64 k1) ∧ OnlyAt g w w' ∧ Blk w' g (flt m v1 e1.x e1.y e1.a e1.b e1.d) 112 := by
  have HB := Lib.hid B
  obtain ⟨y1, c1, f1, -⟩ := bk_o B
  have lg := B.lt
  cases v with
  | false =>
    obtain ⟨⟨qx, qy, qa, qb, qd⟩, kq, hq⟩ : ∃ o k, acqE ⟨x', y', a', b', d'⟩ hi = (o, k) := ⟨_, _, rfl⟩
    have EQ := Lib.hid hq
    by_cases k0 : kq = 0
    · subst k0
      obtain ⟨⟨v1, ⟨p1, p2, p3, p4, p5⟩⟩, k, hset⟩ : ∃ o k, setS m false ⟨x, y, a, b, d⟩ ⟨qx, qy, qa, qb, qd⟩ = (o, k) := ⟨_, _, rfl⟩
      have E : Hid (rangeS m false ⟨x, y, a, b, d⟩ ⟨x', y', a', b', d'⟩ lo hi = ((v1, ⟨p1, p2, p3, p4, p5⟩), k)) := show _ = _ from by unfold rangeS; rw [if_neg (by decide), hq, if_pos rfl]; exact hset
      have ES := Lib.hid hset
      clear B hset hq
      go_enter Tryz.func27, Tryz.ntmps27
      go_wp2_with fail
      refine (acq_v _ _ _ _ _ _ _ _ _ _ _ _ EQ.out _).mono ?_; rintro e w1 ⟨rfl, hb1⟩
      have z1 := hb1.size
      go_wp2_with fail
      refine Calls.mono (set_v _ _ _ _ _ _ _ _ _ _ _ _ _ _ _ _ _ _ _ _ ES.out _ (((HB.out.alloc _).keep hb1).alloc _)) ?_; rintro e w5 ⟨rfl, ho5, hb5⟩
      go_wp2_with fail
      go_ret
      exact ⟨_, _, _, E.out, rfl, (by repeat (first | with_reducible exact OnlyAt.refl | with_reducible refine OnlyAt.drew ?_ | with_reducible refine OnlyAt.setCell ?_ _ _ | (with_reducible refine OnlyAt.setNew ?_ ?hB _ _; case hB => (first | omega | (simp; done) | (simp; omega))) | with_reducible refine OnlyAt.alloc ?_ _ | with_reducible refine OnlyAt.trans ?_ (OnlyAt.of_below (by assumption)) | with_reducible refine OnlyAt.trans ?_ (by assumption))), hb5⟩
    · have E : Hid (rangeS m false ⟨x, y, a, b, d⟩ ⟨x', y', a', b', d'⟩ lo hi = ((false, ⟨x, y, a, b, d⟩), kq)) := show _ = _ from by unfold rangeS; rw [if_neg (by decide), hq, if_neg k0]
      have b0 : (kq == 0) = false := by simp [k0]
      have b1 : (kq != 0) = true := by simp [k0]
      clear B hq
      go_enter Tryz.func27, Tryz.ntmps27
      go_wp2_with fail
      refine (acq_v _ _ _ _ _ _ _ _ _ _ _ _ EQ.out _).mono ?_; rintro e w1 ⟨rfl, hb1⟩
      have z1 := hb1.size
      go_wp2_with fail
      go_ret
      exact ⟨_, _, _, E.out, rfl, (by repeat (first | with_reducible exact OnlyAt.refl | with_reducible refine OnlyAt.drew ?_ | with_reducible refine OnlyAt.setCell ?_ _ _ | (with_reducible refine OnlyAt.setNew ?_ ?hB _ _; case hB => (first | omega | (simp; done) | (simp; omega))) | with_reducible refine OnlyAt.alloc ?_ _ | with_reducible refine OnlyAt.trans ?_ (OnlyAt.of_below (by assumption)) | with_reducible refine OnlyAt.trans ?_ (by assumption))), ((HB.out.alloc _).keep hb1).alloc _⟩
  | true =>
    obtain ⟨⟨fx, fy, fa, fb, fd⟩, kf, hf⟩ : ∃ o k, updE ⟨x, y, a, b, d⟩ ⟨x', y', a', b', d'⟩ lo hi = (o, k) := ⟨_, _, rfl⟩
    obtain ⟨⟨v1, ⟨p1, p2, p3, p4, p5⟩⟩, k, ht⟩ : ∃ o k, takeS true ⟨x, y, a, b, d⟩ ⟨fx, fy, fa, fb, fd⟩ kf = (o, k) := ⟨_, _, rfl⟩
    have E : Hid (rangeS m true ⟨x, y, a, b, d⟩ ⟨x', y', a', b', d'⟩ lo hi = ((v1, ⟨p1, p2, p3, p4, p5⟩), k)) := show _ = _ from by unfold rangeS; rw [if_pos rfl, hf]; exact ht
    have EF := Lib.hid hf
    have ET := Lib.hid ht
    clear B hf ht
    go_enter Tryz.func27, Tryz.ntmps27
    obtain ⟨w1, hw1⟩ : ∃ w1, w1 = w.alloc (Obj.cells #[.int .i64 x', .int .i64 y', .int .i64 a', .int .i64 b', .int .i64 d'] 27) := ⟨_, rfl⟩
    go_wp2_with fail
    rw [← hw1]
    have BG : Hid (Blk w1 g (flt m true x y a b d) 112) := by rw [hw1]; exact HB.out.alloc _
    have BU : Hid (Blk w1 w.heap.size #[.int .i64 x', .int .i64 y', .int .i64 a', .int .i64 b', .int .i64 d'] 27) := by rw [hw1]; exact Blk.new _ _ _
    have HL : Hid (Below w.heap.size w w1) := by rw [hw1]; exact (show Below _ _ _ from below_byR)
    clear hw1 y1 c1 f1 HB
    have r2 := @inw_cell _ _ _ (BG.out.cell (i := 2) rfl)
    have r3 := @inw_cell _ _ _ (BG.out.cell (i := 3) rfl)
    have r4 := @inw_cell _ _ _ (BG.out.cell (i := 4) rfl)
    have r5 := @inw_cell _ _ _ (BG.out.cell (i := 5) rfl)
    have r6 := @inw_cell _ _ _ (BG.out.cell (i := 6) rfl)
    have u0 := @inw_cell _ _ _ (BU.out.cell (i := 0) rfl)
    have u1 := @inw_cell _ _ _ (BU.out.cell (i := 1) rfl)
    have u2 := @inw_cell _ _ _ (BU.out.cell (i := 2) rfl)
    have u3 := @inw_cell _ _ _ (BU.out.cell (i := 3) rfl)
    have u4 := @inw_cell _ _ _ (BU.out.cell (i := 4) rfl)
    refine wp_region_fresh' 11 (fun _ => none) (fun _ => []) (by kernel_rfl) (by kernel_rfl) ?_; refine ex_list ?_; apply Exists.intro; refine ex_list ?_; apply Exists.intro; refine ex_list ?_; apply Exists.intro; refine ex_list ?_; apply Exists.intro; refine ex_list ?_; apply Exists.intro; refine ex_list ?_; apply Exists.intro; refine ex_list ?_; apply Exists.intro; refine ex_list ?_; apply Exists.intro; refine ex_list ?_; apply Exists.intro; refine ex_list ?_; apply Exists.intro; refine ex_list ?_; apply Exists.intro; refine ⟨[], fun gg NN hN => ?_⟩; simp only [List.take_succ_cons, List.take_zero, List.drop_succ_cons, List.drop_zero]; (repeat (refine lexF_quiet rfl ?_; go_big_quiet_step (first | exact rfl | (first | (go_at_call 21; exact calls_in (upd_v _ _ _ _ _ _ _ _ _ _ _ _ _ _ _ _ _ _ EF.out _)))); refine wpQuiet_nil ⟨rfl, ?_⟩))
    refine lexF_nil ?_
    intro w2 hb' _ _
    have hb2 : Below w1.heap.size w1 w2 := hb'
    have BG2 := Lib.hid (BG.out.keep hb2)
    clear hb' r2 r3 r4 r5 r6 u0 u1 u2 u3 u4
    go_wp2_with fail
    refine Calls.mono (take_v _ _ _ _ _ _ _ _ _ _ _ _ _ _ _ _ _ _ _ _ _ ET.out _ BG2.out) ?_; rintro e w5 ⟨rfl, ho5, hb5⟩
    go_wp2_with fail
    go_ret
    exact ⟨_, _, _, E.out, rfl, (OnlyAt.of_below (Below.trans HL.out (hb2.mono HL.out.size))).trans ho5, hb5⟩
end Go.Proofs.YtilginoibhfeiaaGreat
