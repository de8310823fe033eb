/- The walks of esmf: take, Meet, Range. -/
import Derived.Test.YtfohihjeemmedaaS3
import Derived.Test.YtfohihjeemmedaaVB
import Derived.Test.YtfohihjeemmedaaBE
namespace Go.Proofs.Ytfohihjeemmedaa
open Go.RowKit

def takeS (v : Bool) (e f : El) (k : Int) : (Bool × El) × Int := if k = 0 then ((v, f), 0) else if k = 3 then ((false, El.zero), 3) else ((v, e), k)
set_option maxRecDepth 100000 in
set_option maxHeartbeats 4000000 in
theorem take_c (g : Nat) (m : Int) (v : Bool) (x y a b d x' y' a' b' d' k : Int) (w : World) (B : Blk w g (flt m v x y a b d) 75) :
    Calls Try.prog 39 #[.pointer (some ⟨g, 0, none⟩), elC x' y' a' b' d', .int .i64 k] w fun e w' => ∃ v1 e1 k1, takeS v ⟨x, y, a, b, d⟩ ⟨x', y', a', b', d'⟩ k = ((v1, e1), k1) ∧ e = .returned (.int .i64 k1) ∧ OnlyAt g w w' ∧ Blk w' g (flt m v1 e1.x e1.y e1.a e1.b e1.d) 75 := by
  have HB := Lib.hid B
  obtain ⟨y1, c1, f1, -⟩ := bk_o B
  have lg := B.lt
  by_cases k0 : k = 0
  · subst k0
    have E : Hid (takeS v ⟨x, y, a, b, d⟩ ⟨x', y', a', b', d'⟩ 0 = ((v, ⟨x', y', a', b', d'⟩), 0)) := rfl
    clear B
    go_enter Try.func39, Try.ntmps39
    go_wp2_with fail
    go_ret
    refine ⟨_, _, _, E.out, rfl, (by repeat (first | with_reducible exact OnlyAt.refl | with_reducible refine OnlyAt.drew ?_ | with_reducible refine OnlyAt.setCell ?_ _ _ | (with_reducible refine OnlyAt.setNew ?_ ?hB _ _; case hB => (first | omega | (simp; done) | (simp; omega))) | with_reducible refine OnlyAt.alloc ?_ _ | with_reducible refine OnlyAt.trans ?_ (OnlyAt.of_below (by assumption)) | with_reducible refine OnlyAt.trans ?_ (by assumption))), ?_⟩
    apply Blk.of_eq
    · repeat (first | with_reducible exact HB.out | with_reducible apply Blk.drew | with_reducible apply Blk.setCell_same | with_reducible apply Blk.alloc)
    · rfl
  · by_cases k3 : k = 3
    · subst k3
      have E : Hid (takeS v ⟨x, y, a, b, d⟩ ⟨x', y', a', b', d'⟩ 3 = ((false, El.zero), 3)) := rfl
      clear B
      go_enter Try.func39, Try.ntmps39
      go_wp2_with fail
      refine Calls.mono (lose_c g m _ _ _ _ _ _ _ (HB.out.alloc _)) ?_; rintro e w9 ⟨rfl, ho9, hb9⟩
      go_wp2_with fail
      go_ret
      exact ⟨_, _, _, E.out, rfl, (by repeat (first | with_reducible exact OnlyAt.refl | with_reducible refine OnlyAt.drew ?_ | with_reducible refine OnlyAt.setCell ?_ _ _ | (with_reducible refine OnlyAt.setNew ?_ ?hB _ _; case hB => (first | omega | (simp; done) | (simp; omega))) | with_reducible refine OnlyAt.alloc ?_ _ | with_reducible refine OnlyAt.trans ?_ (OnlyAt.of_below (by assumption)) | with_reducible refine OnlyAt.trans ?_ (by assumption))), hb9⟩
    · have E : Hid (takeS v ⟨x, y, a, b, d⟩ ⟨x', y', a', b', d'⟩ k = ((v, ⟨x, y, a, b, d⟩), k)) := show _ = _ from by unfold takeS; rw [if_neg k0, if_neg k3]
      have b0 : (k == 0) = false := by simp [k0]
      have b3 : (k == 3) = false := by simp [k3]
      clear B
      go_enter Try.func39, Try.ntmps39
      go_wp2_with fail
      go_ret
      exact ⟨_, _, _, E.out, rfl, (by repeat (first | with_reducible exact OnlyAt.refl | with_reducible refine OnlyAt.drew ?_ | with_reducible refine OnlyAt.setCell ?_ _ _ | (with_reducible refine OnlyAt.setNew ?_ ?hB _ _; case hB => (first | omega | (simp; done) | (simp; omega))) | with_reducible refine OnlyAt.alloc ?_ _ | with_reducible refine OnlyAt.trans ?_ (OnlyAt.of_below (by assumption)) | with_reducible refine OnlyAt.trans ?_ (by assumption))), HB.out.alloc _⟩
theorem take_v (g : Nat) (m : Int) (v : Bool) (x y a b d x' y' a' b' d' k : Int) (v1 : Bool) (x1 y1 a1 b1 d1 k1 : Int) (h : takeS v ⟨x, y, a, b, d⟩ ⟨x', y', a', b', d'⟩ k = ((v1, ⟨x1, y1, a1, b1, d1⟩), k1)) (w : World) (B : Blk w g (flt m v x y a b d) 75) :
    Calls Try.prog 39 #[.pointer (some ⟨g, 0, none⟩), elC x' y' a' b' d', .int .i64 k] w fun e w' => e = .returned (.int .i64 k1) ∧ OnlyAt g w w' ∧ Blk w' g (flt m v1 x1 y1 a1 b1 d1) 75 := by
  refine (take_c g m v x y a b d x' y' a' b' d' k w B).mono ?_
  rintro e w' ⟨v2, e2, k2, hs, he, ho, hb⟩
  rw [h] at hs
  injection hs with h1 h2
  injection h1 with h3 h4
  subst h2; subst h3; subst h4
  exact ⟨he, ho, hb⟩
def meetS (m : Int) (v : Bool) (e f : El) : (Bool × El) × Int := if v = true then takeS v e (gfuseE e f).1 (gfuseE e f).2 else setS m v e f
set_option maxRecDepth 100000 in
set_option maxHeartbeats 4000000 in
theorem meet_c (g : Nat) (m : Int) (v : Bool) (x y a b d x' y' a' b' d' : Int) (w : World) (B : Blk w g (flt m v x y a b d) 75) :
    Calls Try.prog 25 #[.pointer (some ⟨g, 0, none⟩), elC x' y' a' b' d'] w fun e w' => ∃ v1 e1 k1, meetS m v ⟨x, y, a, b, d⟩ ⟨x', y', a', b', d'⟩ = ((v1, e1), k1) ∧ e = .returned (.int .i64 k1) ∧ OnlyAt g w w' ∧ Blk w' g (flt m v1 e1.x e1.y e1.a e1.b e1.d) 75 := by
  have HB := Lib.hid B
  obtain ⟨y1, c1, f1, -⟩ := bk_o B
  have lg := B.lt
  cases v with
  | false =>
    obtain ⟨⟨v1, ⟨p1, p2, p3, p4, p5⟩⟩, k, hset⟩ : ∃ o k, setS m false ⟨x, y, a, b, d⟩ ⟨x', y', a', b', d'⟩ = (o, k) := ⟨_, _, rfl⟩
    have E : Hid (meetS m false ⟨x, y, a, b, d⟩ ⟨x', y', a', b', d'⟩ = ((v1, ⟨p1, p2, p3, p4, p5⟩), k)) := show _ = _ from by unfold meetS; rw [if_neg (by decide)]; exact hset
    have ES := Lib.hid hset
    clear B hset
    go_enter Try.func25, Try.ntmps25
    go_wp2_with fail
    refine Calls.mono (set_v _ _ _ _ _ _ _ _ _ _ _ _ _ _ _ _ _ _ _ _ ES.out _ (HB.out.alloc _)) ?_; rintro e w5 ⟨rfl, ho5, hb5⟩
    go_wp2_with fail
    go_ret
    exact ⟨_, _, _, E.out, rfl, (by repeat (first | with_reducible exact OnlyAt.refl | with_reducible refine OnlyAt.drew ?_ | with_reducible refine OnlyAt.setCell ?_ _ _ | (with_reducible refine OnlyAt.setNew ?_ ?hB _ _; case hB => (first | omega | (simp; done) | (simp; omega))) | with_reducible refine OnlyAt.alloc ?_ _ | with_reducible refine OnlyAt.trans ?_ (OnlyAt.of_below (by assumption)) | with_reducible refine OnlyAt.trans ?_ (by assumption))), hb5⟩
  | true =>
    obtain ⟨⟨fx, fy, fa, fb, fd⟩, kf, hf⟩ : ∃ o k, gfuseE ⟨x, y, a, b, d⟩ ⟨x', y', a', b', d'⟩ = (o, k) := ⟨_, _, rfl⟩
    obtain ⟨⟨v1, ⟨p1, p2, p3, p4, p5⟩⟩, k, ht⟩ : ∃ o k, takeS true ⟨x, y, a, b, d⟩ ⟨fx, fy, fa, fb, fd⟩ kf = (o, k) := ⟨_, _, rfl⟩
    have E : Hid (meetS m true ⟨x, y, a, b, d⟩ ⟨x', y', a', b', d'⟩ = ((v1, ⟨p1, p2, p3, p4, p5⟩), k)) := show _ = _ from by unfold meetS; rw [if_pos rfl, hf]; exact ht
    have EF := Lib.hid hf
    have ET := Lib.hid ht
    clear B hf ht
    go_enter Try.func25, Try.ntmps25
    obtain ⟨w1, hw1⟩ : ∃ w1, w1 = w.alloc (Obj.cells #[.int .i64 x', .int .i64 y', .int .i64 a', .int .i64 b', .int .i64 d'] 27) := ⟨_, rfl⟩
    go_wp2_with fail
    rw [← hw1]
    have BG : Hid (Blk w1 g (flt m true x y a b d) 75) := by rw [hw1]; exact HB.out.alloc _
    have BU : Hid (Blk w1 w.heap.size #[.int .i64 x', .int .i64 y', .int .i64 a', .int .i64 b', .int .i64 d'] 27) := by rw [hw1]; exact Blk.new _ _ _
    have HL : Hid (Below w.heap.size w w1) := by rw [hw1]; exact (show Below _ _ _ from (by repeat (first | with_reducible exact Below.refl _ _ | with_reducible exact Below_of_hid (by assumption) | with_reducible refine Below.drew ?_ | with_reducible refine below_drewN ?_ _ | (with_reducible refine Below_putRow ?_ ?hB _ _; case hB => (first | omega | (simp; done) | (simp; omega))) | (with_reducible refine Below.alloc ?_ ?hB _; case hB => (first | omega | (simp; done) | (simp; omega))) | (with_reducible refine Below.setCell ?_ ?hB _; case hB => (first | omega | (simp; done) | (simp; omega))) | (with_reducible refine Below.trans ?_ (Below.mono (by assumption) ?hB); case hB => (first | omega | (simp; done) | (simp; omega))))))
    clear hw1 y1 c1 f1 HB
    have r2 := @inw_cell _ _ _ (BG.out.cell (i := 2) rfl)
    have r3 := @inw_cell _ _ _ (BG.out.cell (i := 3) rfl)
    have r4 := @inw_cell _ _ _ (BG.out.cell (i := 4) rfl)
    have r5 := @inw_cell _ _ _ (BG.out.cell (i := 5) rfl)
    have r6 := @inw_cell _ _ _ (BG.out.cell (i := 6) rfl)
    have u0 := @inw_cell _ _ _ (BU.out.cell (i := 0) rfl)
    have u1 := @inw_cell _ _ _ (BU.out.cell (i := 1) rfl)
    have u2 := @inw_cell _ _ _ (BU.out.cell (i := 2) rfl)
    have u3 := @inw_cell _ _ _ (BU.out.cell (i := 3) rfl)
    have u4 := @inw_cell _ _ _ (BU.out.cell (i := 4) rfl)
    refine wp_region_fresh' 9 (fun _ => none) (fun _ => []) (by kernel_rfl) (by kernel_rfl) ?_; refine ex_list ?_; apply Exists.intro; refine ex_list ?_; apply Exists.intro; refine ex_list ?_; apply Exists.intro; refine ex_list ?_; apply Exists.intro; refine ex_list ?_; apply Exists.intro; refine ex_list ?_; apply Exists.intro; refine ex_list ?_; apply Exists.intro; refine ex_list ?_; apply Exists.intro; refine ex_list ?_; apply Exists.intro; refine ⟨[], fun gg NN hN => ?_⟩; simp only [List.take_succ_cons, List.take_zero, List.drop_succ_cons, List.drop_zero]; (repeat (refine lexF_quiet rfl ?_; go_big_quiet_step (first | exact rfl | (first | (go_at_call 28; exact calls_in (gfuse_v _ _ _ _ _ _ _ _ _ _ _ _ _ _ _ _ EF.out _)))); refine wpQuiet_nil ⟨rfl, ?_⟩))
    refine lexF_nil ?_
    intro w2 hb' _ _
    have hb2 : Below w1.heap.size w1 w2 := hb'
    have BG2 := Lib.hid (BG.out.keep hb2)
    clear hb' r2 r3 r4 r5 r6 u0 u1 u2 u3 u4
    go_wp2_with fail
    refine Calls.mono (take_v _ _ _ _ _ _ _ _ _ _ _ _ _ _ _ _ _ _ _ _ _ ET.out _ BG2.out) ?_; rintro e w5 ⟨rfl, ho5, hb5⟩
    go_wp2_with fail
    go_ret
    exact ⟨_, _, _, E.out, rfl, (OnlyAt.of_below (Below.trans HL.out (hb2.mono HL.out.size))).trans ho5, hb5⟩
def rangeS (m : Int) (v : Bool) (e n : El) (lo hi : Int) : (Bool × El) × Int :=
  if v = true then takeS v e (updE e n lo hi).1 (updE e n lo hi).2 else if (acqE n hi).2 = 0 then setS m v e (acqE n hi).1 else ((v, e), (acqE n hi).2)
set_option maxRecDepth 100000 in
set_option maxHeartbeats 4000000 in
theorem range_c (g : Nat) (m : Int) (v : Bool) (x y a b d x' y' a' b' d' lo hi : Int) (w : World) (B : Blk w g (flt m v x y a b d) 75) :
    Calls Try.prog 24 #[.pointer (some ⟨g, 0, none⟩), elC x' y' a' b' d', .int .i64 lo, .int .i64 hi] w fun e w' => ∃ v1 e1 k1, rangeS m v ⟨x, y, a, b, d⟩ ⟨x', y', a', b', d'⟩ lo hi = ((v1, e1), k1) ∧ e = .returned (.int .i64 k1) ∧ OnlyAt g w w' ∧ Blk w' g (flt m v1 e1.x e1.y e1.a e1.b e1.d) 75 := by
  have HB := Lib.hid B
  obtain ⟨y1, c1, f1, -⟩ := bk_o B
  have lg := B.lt
  cases v with
  | false =>
    obtain ⟨⟨qx, qy, qa, qb, qd⟩, kq, hq⟩ : ∃ o k, acqE ⟨x', y', a', b', d'⟩ hi = (o, k) := ⟨_, _, rfl⟩
    have EQ := Lib.hid hq
    by_cases k0 : kq = 0
    · subst k0
      obtain ⟨⟨v1, ⟨p1, p2, p3, p4, p5⟩⟩, k, hset⟩ : ∃ o k, setS m false ⟨x, y, a, b, d⟩ ⟨qx, qy, qa, qb, qd⟩ = (o, k) := ⟨_, _, rfl⟩
      have E : Hid (rangeS m false ⟨x, y, a, b, d⟩ ⟨x', y', a', b', d'⟩ lo hi = ((v1, ⟨p1, p2, p3, p4, p5⟩), k)) := show _ = _ from by unfold rangeS; rw [if_neg (by decide), hq, if_pos rfl]; exact hset
      have ES := Lib.hid hset
      clear B hset hq
      go_enter Try.func24, Try.ntmps24
      go_wp2_with fail
      refine (acq_v _ _ _ _ _ _ _ _ _ _ _ _ EQ.out _).mono ?_; rintro e w1 ⟨rfl, hb1⟩
      have z1 := hb1.size
      go_wp2_with fail
      refine Calls.mono (set_v _ _ _ _ _ _ _ _ _ _ _ _ _ _ _ _ _ _ _ _ ES.out _ (((HB.out.alloc _).keep hb1).alloc _)) ?_; rintro e w5 ⟨rfl, ho5, hb5⟩
      go_wp2_with fail
      go_ret
      exact ⟨_, _, _, E.out, rfl, (by repeat (first | with_reducible exact OnlyAt.refl | with_reducible refine OnlyAt.drew ?_ | with_reducible refine OnlyAt.setCell ?_ _ _ | (with_reducible refine OnlyAt.setNew ?_ ?hB _ _; case hB => (first | omega | (simp; done) | (simp; omega))) | with_reducible refine OnlyAt.alloc ?_ _ | with_reducible refine OnlyAt.trans ?_ (OnlyAt.of_below (by assumption)) | with_reducible refine OnlyAt.trans ?_ (by assumption))), hb5⟩
    · have E : Hid (rangeS m false ⟨x, y, a, b, d⟩ ⟨x', y', a', b', d'⟩ lo hi = ((false, ⟨x, y, a, b, d⟩), kq)) := show _ = _ from by unfold rangeS; rw [if_neg (by decide), hq, if_neg k0]
      have b0 : (kq == 0) = false := by simp [k0]
      have b1 : (kq != 0) = true := by simp [k0]
      clear B hq
      go_enter Try.func24, Try.ntmps24
      go_wp2_with fail
      refine (acq_v _ _ _ _ _ _ _ _ _ _ _ _ EQ.out _).mono ?_; rintro e w1 ⟨rfl, hb1⟩
      have z1 := hb1.size
      go_wp2_with fail
      go_ret
      exact ⟨_, _, _, E.out, rfl, (by repeat (first | with_reducible exact OnlyAt.refl | with_reducible refine OnlyAt.drew ?_ | with_reducible refine OnlyAt.setCell ?_ _ _ | (with_reducible refine OnlyAt.setNew ?_ ?hB _ _; case hB => (first | omega | (simp; done) | (simp; omega))) | with_reducible refine OnlyAt.alloc ?_ _ | with_reducible refine OnlyAt.trans ?_ (OnlyAt.of_below (by assumption)) | with_reducible refine OnlyAt.trans ?_ (by assumption))), ((HB.out.alloc _).keep hb1).alloc _⟩
  | true =>
    obtain ⟨⟨fx, fy, fa, fb, fd⟩, kf, hf⟩ : ∃ o k, updE ⟨x, y, a, b, d⟩ ⟨x', y', a', b', d'⟩ lo hi = (o, k) := ⟨_, _, rfl⟩
    obtain ⟨⟨v1, ⟨p1, p2, p3, p4, p5⟩⟩, k, ht⟩ : ∃ o k, takeS true ⟨x, y, a, b, d⟩ ⟨fx, fy, fa, fb, fd⟩ kf = (o, k) := ⟨_, _, rfl⟩
    have E : Hid (rangeS m true ⟨x, y, a, b, d⟩ ⟨x', y', a', b', d'⟩ lo hi = ((v1, ⟨p1, p2, p3, p4, p5⟩), k)) := show _ = _ from by unfold rangeS; rw [if_pos rfl, hf]; exact ht
    have EF := Lib.hid hf
    have ET := Lib.hid ht
    clear B hf ht
    go_enter Try.func24, Try.ntmps24
    obtain ⟨w1, hw1⟩ : ∃ w1, w1 = w.alloc (Obj.cells #[.int .i64 x', .int .i64 y', .int .i64 a', .int .i64 b', .int .i64 d'] 27) := ⟨_, rfl⟩
    go_wp2_with fail
    rw [← hw1]
    have BG : Hid (Blk w1 g (flt m true x y a b d) 75) := by rw [hw1]; exact HB.out.alloc _
    have BU : Hid (Blk w1 w.heap.size #[.int .i64 x', .int .i64 y', .int .i64 a', .int .i64 b', .int .i64 d'] 27) := by rw [hw1]; exact Blk.new _ _ _
    have HL : Hid (Below w.heap.size w w1) := by rw [hw1]; exact (show Below _ _ _ from (by repeat (first | with_reducible exact Below.refl _ _ | with_reducible exact Below_of_hid (by assumption) | with_reducible refine Below.drew ?_ | with_reducible refine below_drewN ?_ _ | (with_reducible refine Below_putRow ?_ ?hB _ _; case hB => (first | omega | (simp; done) | (simp; omega))) | (with_reducible refine Below.alloc ?_ ?hB _; case hB => (first | omega | (simp; done) | (simp; omega))) | (with_reducible refine Below.setCell ?_ ?hB _; case hB => (first | omega | (simp; done) | (simp; omega))) | (with_reducible refine Below.trans ?_ (Below.mono (by assumption) ?hB); case hB => (first | omega | (simp; done) | (simp; omega))))))
    clear hw1 y1 c1 f1 HB
    have r2 := @inw_cell _ _ _ (BG.out.cell (i := 2) rfl)
    have r3 := @inw_cell _ _ _ (BG.out.cell (i := 3) rfl)
    have r4 := @inw_cell _ _ _ (BG.out.cell (i := 4) rfl)
    have r5 := @inw_cell _ _ _ (BG.out.cell (i := 5) rfl)
    have r6 := @inw_cell _ _ _ (BG.out.cell (i := 6) rfl)
    have u0 := @inw_cell _ _ _ (BU.out.cell (i := 0) rfl)
    have u1 := @inw_cell _ _ _ (BU.out.cell (i := 1) rfl)
    have u2 := @inw_cell _ _ _ (BU.out.cell (i := 2) rfl)
    have u3 := @inw_cell _ _ _ (BU.out.cell (i := 3) rfl)
    have u4 := @inw_cell _ _ _ (BU.out.cell (i := 4) rfl)
    refine wp_region_fresh' 11 (fun _ => none) (fun _ => []) (by kernel_rfl) (by kernel_rfl) ?_; refine ex_list ?_; apply Exists.intro; refine ex_list ?_; apply Exists.intro; refine ex_list ?_; apply Exists.intro; refine ex_list ?_; apply Exists.intro; refine ex_list ?_; apply Exists.intro; refine ex_list ?_; apply Exists.intro; refine ex_list ?_; apply Exists.intro; refine ex_list ?_; apply Exists.intro; refine ex_list ?_; apply Exists.intro; refine ex_list ?_; apply Exists.intro; refine ex_list ?_; apply Exists.intro; refine ⟨[], fun gg NN hN => ?_⟩; simp only [List.take_succ_cons, List.take_zero, List.drop_succ_cons, List.drop_zero]; (repeat (refine lexF_quiet rfl ?_; go_big_quiet_step (first | exact rfl | (first | (go_at_call 10; exact calls_in (upd_v _ _ _ _ _ _ _ _ _ _ _ _ _ _ _ _ _ _ EF.out _)))); refine wpQuiet_nil ⟨rfl, ?_⟩))
    refine lexF_nil ?_
    intro w2 hb' _ _
    have hb2 : Below w1.heap.size w1 w2 := hb'
    have BG2 := Lib.hid (BG.out.keep hb2)
    clear hb' r2 r3 r4 r5 r6 u0 u1 u2 u3 u4
    go_wp2_with fail
    refine Calls.mono (take_v _ _ _ _ _ _ _ _ _ _ _ _ _ _ _ _ _ _ _ _ _ ET.out _ BG2.out) ?_; rintro e w5 ⟨rfl, ho5, hb5⟩
    go_wp2_with fail
    go_ret
    exact ⟨_, _, _, E.out, rfl, (OnlyAt.of_below (Below.trans HL.out (hb2.mono HL.out.size))).trans ho5, hb5⟩
end Go.Proofs.Ytfohihjeemmedaa
