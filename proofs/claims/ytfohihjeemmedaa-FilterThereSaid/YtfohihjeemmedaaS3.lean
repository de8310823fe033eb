/- The walks of esmf: Move, take. -/
import Derived.Test.YtfohihjeemmedaaS2
import Derived.Test.YtfohihjeemmedaaVA
import Derived.Deep.RegionHeld3
import Derived.Deep.Cut
namespace Go.Proofs.Ytfohihjeemmedaa
open Go.RowKit

/-- Move: the filter's state and the answer. -/
def moveS (m : Int) (v : Bool) (e : El) (u w r : Int) : (Bool × El) × Int :=
  if v = true then
    if (shiftE e u w).2 = 0 then
      if (growE (shiftE e u w).1 r).2 = 0 then
        if (setS m v e (growE (shiftE e u w).1 r).1).2 = 2 then ((false, El.zero), 2) else setS m v e (growE (shiftE e u w).1 r).1
      else if (growE (shiftE e u w).1 r).2 = 2 then ((false, El.zero), 2) else ((v, e), (growE (shiftE e u w).1 r).2)
    else if (shiftE e u w).2 = 2 then ((false, El.zero), 2) else ((v, e), (shiftE e u w).2)
  else ((v, e), 10)
theorem move_cases (m : Int) (e s g : El) (u w r ks kg : Int) (h1 : shiftE e u w = (s, ks)) (h2 : growE s r = (g, kg)) :
    (¬ ks = 0 ∧ ¬ ks = 2 ∧ moveS m true e u w r = ((true, e), ks)) ∨ (ks = 2 ∧ moveS m true e u w r = ((false, El.zero), 2)) ∨ (ks = 0 ∧ ¬ kg = 0 ∧ ¬ kg = 2 ∧ moveS m true e u w r = ((true, e), kg)) ∨ (ks = 0 ∧ kg = 2 ∧ moveS m true e u w r = ((false, El.zero), 2)) ∨
      (ks = 0 ∧ kg = 0 ∧ (setS m true e g).2 = 2 ∧ moveS m true e u w r = ((false, El.zero), 2)) ∨ (ks = 0 ∧ kg = 0 ∧ ¬ (setS m true e g).2 = 2 ∧ moveS m true e u w r = setS m true e g) := by
  unfold moveS
  rw [if_pos rfl, h1]
  simp only
  rw [h2]
  simp only
  by_cases a : ks = 0
  · right; right
    rw [if_pos a]
    by_cases b : kg = 0
    · right; right
      rw [if_pos b]
      by_cases c : (setS m true e g).2 = 2
      · left; exact ⟨a, b, c, by rw [if_pos c]⟩
      · right; exact ⟨a, b, c, by rw [if_neg c]⟩
    · rw [if_neg b]
      by_cases c : kg = 2
      · right; left; exact ⟨a, c, by rw [if_pos c]⟩
      · left; exact ⟨a, b, c, by rw [if_neg c]⟩
  · rw [if_neg a]
    by_cases b : ks = 2
    · right; left; exact ⟨b, by rw [if_pos b]⟩
    · left; exact ⟨a, b, by rw [if_neg b]⟩
theorem flt_cells {w : World} {g : Nat} {m : Int} {v : Bool} {x y a b d : Int} {t : TypeId} (B : Blk w g (flt m v x y a b d) t) :
    w.cell? ⟨g, 2, none⟩ = some (.int .i64 x) ∧ w.cell? ⟨g, 3, none⟩ = some (.int .i64 y) ∧ w.cell? ⟨g, 4, none⟩ = some (.int .i64 a) ∧ w.cell? ⟨g, 5, none⟩ = some (.int .i64 b) ∧ w.cell? ⟨g, 6, none⟩ = some (.int .i64 d) :=
  ⟨B.cell rfl, B.cell rfl, B.cell rfl, B.cell rfl, B.cell rfl⟩
theorem pt_cells {w : World} {g : Nat} {x y : Int} {t : TypeId} (B : Blk w g #[.int .i64 x, .int .i64 y] t) : w.cell? ⟨g, 0, none⟩ = some (.int .i64 x) ∧ w.cell? ⟨g, 1, none⟩ = some (.int .i64 y) := ⟨B.cell rfl, B.cell rfl⟩
set_option maxRecDepth 100000 in
set_option maxHeartbeats 8000000 in
theorem move_c (g : Nat) (m : Int) (v : Bool) (x y a b d ux uy r : Int) (w : World) (B : Blk w g (flt m v x y a b d) 75) :
    Calls Try.prog 20 #[.pointer (some ⟨g, 0, none⟩), ptV ux uy, .int .i64 r] w fun e w' => ∃ v1 e1 k, moveS m v ⟨x, y, a, b, d⟩ ux uy r = ((v1, e1), k) ∧ e = .returned (.int .i64 k) ∧ OnlyAt g w w' ∧ Blk w' g (flt m v1 e1.x e1.y e1.a e1.b e1.d) 75 := by
  have lg := B.lt
  cases v with
  | false =>
    have E : Hid (moveS m false ⟨x, y, a, b, d⟩ ux uy r = ((false, ⟨x, y, a, b, d⟩), 10)) := rfl
    have HB := Lib.hid B
    obtain ⟨y1, c1, f1, -⟩ := bk_o B
    clear B
    go_enter Try.func20, Try.ntmps20
    go_wp2_with fail
    go_ret
    exact ⟨_, _, _, E.out, rfl, (by repeat (first | with_reducible exact OnlyAt.refl | with_reducible refine OnlyAt.drew ?_ | with_reducible refine OnlyAt.setCell ?_ _ _ | (with_reducible refine OnlyAt.setNew ?_ ?hB _ _; case hB => (first | omega | (simp; done) | (simp; omega))) | with_reducible refine OnlyAt.alloc ?_ _ | with_reducible refine OnlyAt.trans ?_ (OnlyAt.of_below (by assumption)) | with_reducible refine OnlyAt.trans ?_ (by assumption))), HB.out.alloc _⟩
  | true =>
    obtain ⟨⟨sx, sy, sa, sb, sd⟩, ks, hs⟩ : ∃ o k, shiftE ⟨x, y, a, b, d⟩ ux uy = (o, k) := ⟨_, _, rfl⟩
    obtain ⟨⟨gx, gy, ga, gb, gd⟩, kg, hg⟩ : ∃ o k, growE ⟨sx, sy, sa, sb, sd⟩ r = (o, k) := ⟨_, _, rfl⟩
    have MC := Lib.hid (move_cases m _ _ _ ux uy r ks kg hs hg)
    have HS := Lib.hid hs
    have HG := Lib.hid hg
    have HB := Lib.hid B
    clear hs hg
    obtain ⟨y1, c1, f1, -⟩ := bk_o B
    go_enter Try.func20, Try.ntmps20
    obtain ⟨w1, hw1⟩ : ∃ w1, w1 = w.alloc (Obj.cells #[.int .i64 ux, .int .i64 uy] 23) := ⟨_, rfl⟩
    go_wp2_with fail
    rw [← hw1]
    have BG : Hid (Blk w1 g (flt m true x y a b d) 75) := by rw [hw1]; exact HB.out.alloc _
    have BU : Hid (Blk w1 w.heap.size #[.int .i64 ux, .int .i64 uy] 23) := by rw [hw1]; exact Blk.new _ _ _
    have HL : Hid (Below w.heap.size w w1) := by rw [hw1]; exact (show Below _ _ _ from (by repeat (first | with_reducible exact Below.refl _ _ | with_reducible exact Below_of_hid (by assumption) | with_reducible refine Below.drew ?_ | with_reducible refine below_drewN ?_ _ | (with_reducible refine Below_putRow ?_ ?hB _ _; case hB => (first | omega | (simp; done) | (simp; omega))) | (with_reducible refine Below.alloc ?_ ?hB _; case hB => (first | omega | (simp; done) | (simp; omega))) | (with_reducible refine Below.setCell ?_ ?hB _; case hB => (first | omega | (simp; done) | (simp; omega))) | (with_reducible refine Below.trans ?_ (Below.mono (by assumption) ?hB); case hB => (first | omega | (simp; done) | (simp; omega))))))
    have sz1 : w.heap.size < w1.heap.size := by rw [hw1]; simp
    clear hw1 y1 c1 f1 B
    go_cut [7, 8] from 9 (fun s7 s8 wc => ∃ h, s7 = .pointer (some ⟨h, 0, none⟩) ∧ s8 = .int .i64 ks ∧ w1.heap.size ≤ h ∧ Hid (Blk wc h #[.int .i64 sx, .int .i64 sy, .int .i64 sa, .int .i64 sb, .int .i64 sd] 27) ∧ Hid (Below w1.heap.size w1 wc))
    case first =>
      have XX : Blk w1 g (flt m true x y a b d) 75 := BG.out
      have XU : Blk w1 w.heap.size #[.int .i64 ux, .int .i64 uy] 23 := BU.out
      have r1 := flt_cells XX
      have r2 := pt_cells XU
      go_region_held3 (fun w' => (w'.cell? ⟨g, 2, none⟩ = some (.int .i64 x) ∧ w'.cell? ⟨g, 3, none⟩ = some (.int .i64 y) ∧ w'.cell? ⟨g, 4, none⟩ = some (.int .i64 a) ∧ w'.cell? ⟨g, 5, none⟩ = some (.int .i64 b) ∧ w'.cell? ⟨g, 6, none⟩ = some (.int .i64 d)) ∧ (w'.cell? ⟨w.heap.size, 0, none⟩ = some (.int .i64 ux) ∧ w'.cell? ⟨w.heap.size, 1, none⟩ = some (.int .i64 uy))) (first | with_reducible exact ⟨r1, r2⟩ | (refine ⟨?_, ?_⟩; (focus (with_reducible refine flt_cells (m := m) (v := true) (t := 75) ?_; (repeat (first | with_reducible exact XX | with_reducible refine Blk.drew ?_ | with_reducible refine Blk.alloc ?_ _)))); (focus (with_reducible refine pt_cells (t := 23) ?_; (repeat (first | with_reducible exact XU | with_reducible refine Blk.drew ?_ | with_reducible refine Blk.alloc ?_ _)))); done) | go_simp)
        (first
          | (go_at_call 37; refine (shift_v _ _ _ _ _ _ _ _ _ _ _ _ _ HS.out _).mono ?_; rintro e w4 ⟨rfl, hb4⟩; have XX : Blk w4 g (flt m true x y a b d) 75 := (by (with_reducible refine Blk.keep ?_ hb4); (repeat (first | with_reducible exact XX | with_reducible refine Blk.drew ?_ | with_reducible refine Blk.alloc ?_ _))); have XU : Blk w4 w.heap.size #[.int .i64 ux, .int .i64 uy] 23 := (by (with_reducible refine Blk.keep ?_ hb4); (repeat (first | with_reducible exact XU | with_reducible refine Blk.drew ?_ | with_reducible refine Blk.alloc ?_ _))); have r1 := flt_cells XX; have r2 := pt_cells XU; have z_w4 := hb4.size; (try simp at z_w4); (try (refine with_imp (bk hb4 (w1.heap.size)) ?_ ?_; (focus (first | omega | (simp; done) | (simp; omega))); rintro ⟨y_w4_q0, c_w4_q0, f_w4_q0, r_w4_q0, t_w4_q0, p_w4_q0⟩))))
      all_goals go_wp2_with fail
      all_goals go_meet
      all_goals refine ⟨_, rfl, rfl, (by first | omega | (simp; done) | (simp; omega) | fail), ?_, ?_⟩
      all_goals first
        | (show Below _ _ _; exact (by repeat (first | with_reducible exact Below.refl _ _ | with_reducible exact Below_of_hid (by assumption) | with_reducible refine Below.drew ?_ | with_reducible refine below_drewN ?_ _ | (with_reducible refine Below_putRow ?_ ?hB _ _; case hB => (first | omega | (simp; done) | (simp; omega))) | (with_reducible refine Below.alloc ?_ ?hB _; case hB => (first | omega | (simp; done) | (simp; omega))) | (with_reducible refine Below.setCell ?_ ?hB _; case hB => (first | omega | (simp; done) | (simp; omega))) | (with_reducible refine Below.trans ?_ (Below.mono (by assumption) ?hB); case hB => (first | omega | (simp; done) | (simp; omega))))))
        | (show Blk _ _ _ _; apply Blk.of_eq; (focus (repeat (first | with_reducible exact Blk.new _ _ _ | with_reducible apply Blk.drew | with_reducible apply Blk.setCell_same | with_reducible apply Blk.keep (hb := hb4) | with_reducible apply Blk.alloc))); rfl)
    case rest =>
      obtain ⟨h, rfl, rfl, lh, BH, HC⟩ := hcut
      have CG := Lib.hid (BG.out.keep HC.out)
      have HW : Hid (Below w.heap.size w wc) := Below.trans HL.out (HC.out.mono HL.out.size)
      have szc := HW.out.size
      have ngh : ¬ (g = h) := by omega
      have nhg : ¬ (h = g) := by omega
      obtain ⟨y1, c1, f1, -⟩ := bk_o CG.out
      obtain ⟨y2, c2, f2, -⟩ := bk_o BH.out
      clear BG BU HL HC HB HS
      rcases MC.out with ⟨k0, k2, hv⟩ | ⟨rfl, hv⟩ | ⟨rfl, k0, k2, hv⟩ | ⟨rfl, rfl, hv⟩ | ⟨rfl, rfl, k2, hv⟩ | ⟨rfl, rfl, k2, hv⟩
      · have EV := Lib.hid hv
        have b0 : (ks == 0) = false := by simp [k0]
        have b2 : (ks == 2) = false := by simp [k2]
        clear hv MC
        go_wp2_with fail
        go_ret
        exact ⟨_, _, _, EV.out, rfl, OnlyAt.of_below HW.out, CG.out⟩
      · have EV := Lib.hid hv
        clear hv MC
        go_wp2_with fail
        refine Calls.mono (lose_c g m _ _ _ _ _ _ _ CG.out) ?_; rintro e w9 ⟨rfl, ho9, hb9⟩
        go_wp2_with fail
        go_ret
        exact ⟨_, _, _, EV.out, rfl, (OnlyAt.of_below HW.out).trans ho9, hb9⟩
      · have EV := Lib.hid hv
        have b0 : (kg == 0) = false := by simp [k0]
        have b2 : (kg == 2) = false := by simp [k2]
        clear hv MC
        go_wp2_with fail
        refine (growball_v _ _ _ _ _ _ _ _ _ _ _ _ HG.out _).mono ?_; rintro e w2 ⟨rfl, hb2⟩
        obtain ⟨v2, hv2⟩ : ∃ v2, v2 = (((((w2).setCell ⟨h, 0, none⟩ (.int .i64 gx)).setCell ⟨h, 1, none⟩ (.int .i64 gy)).setCell ⟨h, 2, none⟩ (.int .i64 ga)).setCell ⟨h, 3, none⟩ (.int .i64 gb)).setCell ⟨h, 4, none⟩ (.int .i64 gd) := ⟨_, rfl⟩
        have sz2 := hb2.size
        obtain ⟨y4, c4, f4, -⟩ := bk_o (BH.out.keep hb2)
        have CH : Hid (Blk v2 g (flt m true x y a b d) 75) := by rw [hv2]; exact ((((((CG.out.keep hb2).setCell_other (a := ⟨h, 0, none⟩) ngh _).setCell_other (a := ⟨h, 1, none⟩) ngh _).setCell_other (a := ⟨h, 2, none⟩) ngh _).setCell_other (a := ⟨h, 3, none⟩) ngh _).setCell_other (a := ⟨h, 4, none⟩) ngh _)
        have BH2 : Hid (Blk v2 h #[.int .i64 gx, .int .i64 gy, .int .i64 ga, .int .i64 gb, .int .i64 gd] 27) := by rw [hv2]; exact ((((((BH.out.keep hb2).setCell_same 0 _).setCell_same 1 _).setCell_same 2 _).setCell_same 3 _).setCell_same 4 _).of_eq rfl
        have HW2 : Hid (OnlyAt g w v2) := by rw [hv2]; exact OnlyAt.of_below (show Below _ _ _ from (by have hbw := HW.out; exact (by repeat (first | with_reducible exact Below.refl _ _ | with_reducible exact Below_of_hid (by assumption) | with_reducible refine Below.drew ?_ | with_reducible refine below_drewN ?_ _ | (with_reducible refine Below_putRow ?_ ?hB _ _; case hB => (first | omega | (simp; done) | (simp; omega))) | (with_reducible refine Below.alloc ?_ ?hB _; case hB => (first | omega | (simp; done) | (simp; omega))) | (with_reducible refine Below.setCell ?_ ?hB _; case hB => (first | omega | (simp; done) | (simp; omega))) | (with_reducible refine Below.trans ?_ (Below.mono (by assumption) ?hB); case hB => (first | omega | (simp; done) | (simp; omega)))))))
        clear hv2
        go_wp2_with fail
        go_ret
        exact ⟨_, _, _, EV.out, rfl, OnlyAt.of_below (show Below _ _ _ from (by have hbw := HW.out; exact (by repeat (first | with_reducible exact Below.refl _ _ | with_reducible exact Below_of_hid (by assumption) | with_reducible refine Below.drew ?_ | with_reducible refine below_drewN ?_ _ | (with_reducible refine Below_putRow ?_ ?hB _ _; case hB => (first | omega | (simp; done) | (simp; omega))) | (with_reducible refine Below.alloc ?_ ?hB _; case hB => (first | omega | (simp; done) | (simp; omega))) | (with_reducible refine Below.setCell ?_ ?hB _; case hB => (first | omega | (simp; done) | (simp; omega))) | (with_reducible refine Below.trans ?_ (Below.mono (by assumption) ?hB); case hB => (first | omega | (simp; done) | (simp; omega))))))), ((((((CG.out.keep hb2).setCell_other (a := ⟨h, 0, none⟩) ngh _).setCell_other (a := ⟨h, 1, none⟩) ngh _).setCell_other (a := ⟨h, 2, none⟩) ngh _).setCell_other (a := ⟨h, 3, none⟩) ngh _).setCell_other (a := ⟨h, 4, none⟩) ngh _)⟩
      · have EV := Lib.hid hv
        clear hv MC
        go_wp2_with fail
        refine (growball_v _ _ _ _ _ _ _ _ _ _ _ _ HG.out _).mono ?_; rintro e w2 ⟨rfl, hb2⟩
        obtain ⟨v2, hv2⟩ : ∃ v2, v2 = (((((w2).setCell ⟨h, 0, none⟩ (.int .i64 gx)).setCell ⟨h, 1, none⟩ (.int .i64 gy)).setCell ⟨h, 2, none⟩ (.int .i64 ga)).setCell ⟨h, 3, none⟩ (.int .i64 gb)).setCell ⟨h, 4, none⟩ (.int .i64 gd) := ⟨_, rfl⟩
        have sz2 := hb2.size
        obtain ⟨y4, c4, f4, -⟩ := bk_o (BH.out.keep hb2)
        have CH : Hid (Blk v2 g (flt m true x y a b d) 75) := by rw [hv2]; exact ((((((CG.out.keep hb2).setCell_other (a := ⟨h, 0, none⟩) ngh _).setCell_other (a := ⟨h, 1, none⟩) ngh _).setCell_other (a := ⟨h, 2, none⟩) ngh _).setCell_other (a := ⟨h, 3, none⟩) ngh _).setCell_other (a := ⟨h, 4, none⟩) ngh _)
        have BH2 : Hid (Blk v2 h #[.int .i64 gx, .int .i64 gy, .int .i64 ga, .int .i64 gb, .int .i64 gd] 27) := by rw [hv2]; exact ((((((BH.out.keep hb2).setCell_same 0 _).setCell_same 1 _).setCell_same 2 _).setCell_same 3 _).setCell_same 4 _).of_eq rfl
        have HW2 : Hid (OnlyAt g w v2) := by rw [hv2]; exact OnlyAt.of_below (show Below _ _ _ from (by have hbw := HW.out; exact (by repeat (first | with_reducible exact Below.refl _ _ | with_reducible exact Below_of_hid (by assumption) | with_reducible refine Below.drew ?_ | with_reducible refine below_drewN ?_ _ | (with_reducible refine Below_putRow ?_ ?hB _ _; case hB => (first | omega | (simp; done) | (simp; omega))) | (with_reducible refine Below.alloc ?_ ?hB _; case hB => (first | omega | (simp; done) | (simp; omega))) | (with_reducible refine Below.setCell ?_ ?hB _; case hB => (first | omega | (simp; done) | (simp; omega))) | (with_reducible refine Below.trans ?_ (Below.mono (by assumption) ?hB); case hB => (first | omega | (simp; done) | (simp; omega)))))))
        go_wp2_with fail
        rw [← hv2]
        refine Calls.mono (lose_c g m _ _ _ _ _ _ _ CH.out) ?_; rintro e w9 ⟨rfl, ho9, hb9⟩
        go_wp2_with fail
        go_ret
        exact ⟨_, _, _, EV.out, rfl, HW2.out.trans ho9, hb9⟩
      · obtain ⟨⟨v1, ⟨p1, p2, p3, p4, p5⟩⟩, k, hset⟩ : ∃ o k, setS m true ⟨x, y, a, b, d⟩ ⟨gx, gy, ga, gb, gd⟩ = (o, k) := ⟨_, _, rfl⟩
        (try rw [hset] at k2); (try rw [hset] at hv)
        simp only at k2
        have ES := Lib.hid hset
        subst k2
        have EV := Lib.hid hv
        clear hv MC hset
        go_wp2_with fail
        refine (growball_v _ _ _ _ _ _ _ _ _ _ _ _ HG.out _).mono ?_; rintro e w2 ⟨rfl, hb2⟩
        obtain ⟨v2, hv2⟩ : ∃ v2, v2 = (((((w2).setCell ⟨h, 0, none⟩ (.int .i64 gx)).setCell ⟨h, 1, none⟩ (.int .i64 gy)).setCell ⟨h, 2, none⟩ (.int .i64 ga)).setCell ⟨h, 3, none⟩ (.int .i64 gb)).setCell ⟨h, 4, none⟩ (.int .i64 gd) := ⟨_, rfl⟩
        have sz2 := hb2.size
        obtain ⟨y4, c4, f4, -⟩ := bk_o (BH.out.keep hb2)
        have CH : Hid (Blk v2 g (flt m true x y a b d) 75) := by rw [hv2]; exact ((((((CG.out.keep hb2).setCell_other (a := ⟨h, 0, none⟩) ngh _).setCell_other (a := ⟨h, 1, none⟩) ngh _).setCell_other (a := ⟨h, 2, none⟩) ngh _).setCell_other (a := ⟨h, 3, none⟩) ngh _).setCell_other (a := ⟨h, 4, none⟩) ngh _)
        have BH2 : Hid (Blk v2 h #[.int .i64 gx, .int .i64 gy, .int .i64 ga, .int .i64 gb, .int .i64 gd] 27) := by rw [hv2]; exact ((((((BH.out.keep hb2).setCell_same 0 _).setCell_same 1 _).setCell_same 2 _).setCell_same 3 _).setCell_same 4 _).of_eq rfl
        have HW2 : Hid (OnlyAt g w v2) := by rw [hv2]; exact OnlyAt.of_below (show Below _ _ _ from (by have hbw := HW.out; exact (by repeat (first | with_reducible exact Below.refl _ _ | with_reducible exact Below_of_hid (by assumption) | with_reducible refine Below.drew ?_ | with_reducible refine below_drewN ?_ _ | (with_reducible refine Below_putRow ?_ ?hB _ _; case hB => (first | omega | (simp; done) | (simp; omega))) | (with_reducible refine Below.alloc ?_ ?hB _; case hB => (first | omega | (simp; done) | (simp; omega))) | (with_reducible refine Below.setCell ?_ ?hB _; case hB => (first | omega | (simp; done) | (simp; omega))) | (with_reducible refine Below.trans ?_ (Below.mono (by assumption) ?hB); case hB => (first | omega | (simp; done) | (simp; omega)))))))
        go_wp2_with fail
        rw [← hv2]
        clear hv2 c4 f4 c1 f1 c2 f2
        refine Calls.mono (set_v _ _ _ _ _ _ _ _ _ _ _ _ _ _ _ _ _ _ _ _ ES.out _ CH.out) ?_; rintro e w5 ⟨rfl, ho5, hb5⟩
        go_wp2_with fail
        refine Calls.mono (lose_c g m _ _ _ _ _ _ _ hb5) ?_; rintro e w9 ⟨rfl, ho9, hb9⟩
        go_wp2_with fail
        go_ret
        exact ⟨_, _, _, EV.out, rfl, (HW2.out.trans ho5).trans ho9, hb9⟩
      · obtain ⟨⟨v1, ⟨p1, p2, p3, p4, p5⟩⟩, k, hset⟩ : ∃ o k, setS m true ⟨x, y, a, b, d⟩ ⟨gx, gy, ga, gb, gd⟩ = (o, k) := ⟨_, _, rfl⟩
        (try rw [hset] at k2); (try rw [hset] at hv)
        simp only at k2
        have ES := Lib.hid hset
        have EV := Lib.hid hv
        have b2 : (k == 2) = false := by simp [k2]
        clear hv MC hset
        go_wp2_with fail
        refine (growball_v _ _ _ _ _ _ _ _ _ _ _ _ HG.out _).mono ?_; rintro e w2 ⟨rfl, hb2⟩
        obtain ⟨v2, hv2⟩ : ∃ v2, v2 = (((((w2).setCell ⟨h, 0, none⟩ (.int .i64 gx)).setCell ⟨h, 1, none⟩ (.int .i64 gy)).setCell ⟨h, 2, none⟩ (.int .i64 ga)).setCell ⟨h, 3, none⟩ (.int .i64 gb)).setCell ⟨h, 4, none⟩ (.int .i64 gd) := ⟨_, rfl⟩
        have sz2 := hb2.size
        obtain ⟨y4, c4, f4, -⟩ := bk_o (BH.out.keep hb2)
        have CH : Hid (Blk v2 g (flt m true x y a b d) 75) := by rw [hv2]; exact ((((((CG.out.keep hb2).setCell_other (a := ⟨h, 0, none⟩) ngh _).setCell_other (a := ⟨h, 1, none⟩) ngh _).setCell_other (a := ⟨h, 2, none⟩) ngh _).setCell_other (a := ⟨h, 3, none⟩) ngh _).setCell_other (a := ⟨h, 4, none⟩) ngh _)
        have BH2 : Hid (Blk v2 h #[.int .i64 gx, .int .i64 gy, .int .i64 ga, .int .i64 gb, .int .i64 gd] 27) := by rw [hv2]; exact ((((((BH.out.keep hb2).setCell_same 0 _).setCell_same 1 _).setCell_same 2 _).setCell_same 3 _).setCell_same 4 _).of_eq rfl
        have HW2 : Hid (OnlyAt g w v2) := by rw [hv2]; exact OnlyAt.of_below (show Below _ _ _ from (by have hbw := HW.out; exact (by repeat (first | with_reducible exact Below.refl _ _ | with_reducible exact Below_of_hid (by assumption) | with_reducible refine Below.drew ?_ | with_reducible refine below_drewN ?_ _ | (with_reducible refine Below_putRow ?_ ?hB _ _; case hB => (first | omega | (simp; done) | (simp; omega))) | (with_reducible refine Below.alloc ?_ ?hB _; case hB => (first | omega | (simp; done) | (simp; omega))) | (with_reducible refine Below.setCell ?_ ?hB _; case hB => (first | omega | (simp; done) | (simp; omega))) | (with_reducible refine Below.trans ?_ (Below.mono (by assumption) ?hB); case hB => (first | omega | (simp; done) | (simp; omega)))))))
        go_wp2_with fail
        rw [← hv2]
        clear hv2 c4 f4 c1 f1 c2 f2
        refine Calls.mono (set_v _ _ _ _ _ _ _ _ _ _ _ _ _ _ _ _ _ _ _ _ ES.out _ CH.out) ?_; rintro e w5 ⟨rfl, ho5, hb5⟩
        go_wp2_with fail
        go_ret
        exact ⟨_, _, _, EV.out, rfl, HW2.out.trans ho5, hb5⟩
end Go.Proofs.Ytfohihjeemmedaa
