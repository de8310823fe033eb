/- The walk of GoldenWithin. GoldenWithin: for every input the law returns true; each argument reads behind the call as it read before. No condition. -/
import Derived.Test.YtjfphfnfbgmlfaaHA
import Derived.Test.YtjfphfnfbgmlfaaFe
namespace Go.Proofs.Ytjfphfnfbgmlfaa
open Go.RowKit

theorem gfuse_zero (e f : El) {g : El} {k : Int} (h : gfuseE e f = (g, k)) (hk : k ≠ 0) : g = El.zero := by
  unfold gfuseE at h
  split at h
  · unfold foundE at h
    split at h
    · injection h with h _; exact h.symm
    · injection h with _ h; exact absurd h.symm hk
  · injection h with h _; exact h.symm
theorem gwithin (e f : El) {g : El} (h : gfuseE e f = (g, 0)) : ∀ x, (x = 13 ∨ x = 21) → (fuseE e f x).2 = 0 → g.tr ≤ (fuseE e f x).1.tr := by
  unfold gfuseE at h
  split at h
  · rcases found_cases e (fuseE e f) [f] with ⟨_, h2⟩ | ⟨o, h2, _, _, _, h3⟩
    · rw [h2] at h; injection h with _ h; cases h
    · rw [h2] at h; injection h with h _; subst h; exact h3
  · injection h with _ h; cases h
set_option maxRecDepth 100000 in
@[go_sem ↓] theorem index_0 (w : World) : (Instr.index 65 (.agg #[.int .i64 13, .int .i64 21]) (.int .i64 0)).run Try.prog w = .ok (.int .i64 13) w := by
  simp [Instr.index, asIntOf, run_underlying Try.underlying65, go_sem]
set_option maxRecDepth 100000 in
@[go_sem ↓] theorem index_1 (w : World) : (Instr.index 65 (.agg #[.int .i64 13, .int .i64 21]) (.int .i64 1)).run Try.prog w = .ok (.int .i64 21) w := by
  simp [Instr.index, asIntOf, run_underlying Try.underlying65, go_sem]
set_option maxRecDepth 100000 in
set_option maxHeartbeats 8000000 in
theorem goldenWithin_c (x y a b d x' y' a' b' d' : Int) (w : World) :
    Calls Try.prog 10 #[elC x y a b d, elC x' y' a' b' d'] w fun e w' => e = .returned (.bool true) ∧ Below w.heap.size w w' := by
  obtain ⟨⟨gx, gy, ga, gb, gd⟩, k, hg⟩ : ∃ o k, gfuseE ⟨x, y, a, b, d⟩ ⟨x', y', a', b', d'⟩ = (o, k) := ⟨_, _, rfl⟩
  have HG := Lib.hid hg
  by_cases hk : k = 0
  · subst hk
    have HW := Lib.hid (gwithin _ _ hg)
    obtain ⟨tg, htg⟩ : ∃ t, El.tr ⟨gx, gy, ga, gb, gd⟩ = t := ⟨_, rfl⟩
    have TG := Lib.hid htg
    clear hg htg
    go_enter Try.func10, Try.ntmps10
    go_wp2_with fail
    refine (gfuse_v _ _ _ _ _ _ _ _ _ _ _ _ _ _ _ _ HG.out _).mono ?_; rintro e w1 ⟨rfl, hb1⟩; have z_w1 := hb1.size; (try simp at z_w1); obtain ⟨y_w1_0_0, c_w1_0_0, f_w1_0_0, r_w1_0_0, t_w1_0_0, p_w1_0_0⟩ := bk hb1 (w.heap.size) (by first | omega | (simp; done) | (simp; omega) | fail); obtain ⟨y_w1_0_1, c_w1_0_1, f_w1_0_1, r_w1_0_1, t_w1_0_1, p_w1_0_1⟩ := bk hb1 (w.heap.size + 1) (by first | omega | (simp; done) | (simp; omega) | fail)
    go_wp2_with fail
    obtain ⟨w2, hw2⟩ : ∃ w2, w2 = w1.alloc (Obj.cells #[.int .i64 gx, .int .i64 gy, .int .i64 ga, .int .i64 gb, .int .i64 gd] 27) := ⟨_, rfl⟩
    rw [← hw2]
    have BE : Hid (Blk w2 w.heap.size #[.int .i64 x, .int .i64 y, .int .i64 a, .int .i64 b, .int .i64 d] 27) := by rw [hw2]; exact (((Blk.new _ _ _).alloc _).keep hb1).alloc _
    have BF : Hid (Blk w2 (w.heap.size + 1) #[.int .i64 x', .int .i64 y', .int .i64 a', .int .i64 b', .int .i64 d'] 27) := by rw [hw2]; exact ((Blk.new' _ _ _ (by simp)).keep hb1).alloc _
    have BG : Hid (Blk w2 w1.heap.size #[.int .i64 gx, .int .i64 gy, .int .i64 ga, .int .i64 gb, .int .i64 gd] 27) := by rw [hw2]; exact Blk.new _ _ _
    have HB : Hid (Below w.heap.size w w2) := by rw [hw2]; exact (show Below _ _ _ from (by repeat (first | with_reducible exact Below.refl _ _ | with_reducible exact Below_of_hid (by assumption) | with_reducible refine Below.drew ?_ | with_reducible refine below_drewN ?_ _ | (with_reducible refine Below_putRow ?_ ?hB _ _; case hB => (first | omega | (simp; done) | (simp; omega))) | (with_reducible refine Below.alloc ?_ ?hB _; case hB => (first | omega | (simp; done) | (simp; omega))) | (with_reducible refine Below.setCell ?_ ?hB _; case hB => (first | omega | (simp; done) | (simp; omega))) | (with_reducible refine Below.trans ?_ (Below.mono (by assumption) ?hB); case hB => (first | omega | (simp; done) | (simp; omega))))))
    clear z_w1 y_w1_0_0 c_w1_0_0 f_w1_0_0 r_w1_0_0 t_w1_0_0 p_w1_0_0 y_w1_0_1 c_w1_0_1 f_w1_0_1 r_w1_0_1 t_w1_0_1 p_w1_0_1
    clear hw2 hb1
    go_loopw [26] (fun ti wr => ∃ k : Nat, k ≤ 2 ∧ ti = .int .i64 k ∧ Hid (Below w2.heap.size w2 wr)) (fun ti _ => 2 - (intOf ti).toNat)
    case atStart => exact ⟨0, by omega, rfl, Below.refl _ _⟩
    case round =>
      obtain ⟨k, hk, rfl, RB⟩ := hrel
      have hbr := RB.out
      have zr := hbr.size
      have hb0 := HB.out.trans (hbr.mono HB.out.size)
      have z0 := hb0.size
      rcases k with _ | _ | _ | k
      · obtain ⟨⟨ox, oy, oa, ob, od⟩, r, ho⟩ : ∃ o r, fuseE ⟨x, y, a, b, d⟩ ⟨x', y', a', b', d'⟩ 13 = (o, r) := ⟨_, _, rfl⟩
        have hl := HW.out 13 (by decide)
        rw [ho] at hl
        obtain ⟨tz, hto⟩ : ∃ t, El.tr ⟨ox, oy, oa, ob, od⟩ = t := ⟨_, rfl⟩
        have hl2 : r = 0 → tg ≤ tz := fun h => by have := hl h; rw [TG.out, hto] at this; exact this
        have HO := Lib.hid ho
        have TO := Lib.hid hto
        clear hl ho hto
        obtain ⟨y1, c1, f1, -⟩ := hb_facts (BE.out.keep hbr)
        obtain ⟨y2, c2, f2, -⟩ := hb_facts (BF.out.keep hbr)
        have BG2 := BG.out.keep hbr
        by_cases hr : r = 0
        · subst hr
          have hl3 : ¬ tz < tg := by have := hl2 rfl; omega
          clear hl2
          go_wp2_with fail
          refine (fuse_v _ _ _ _ _ _ _ _ _ _ _ _ _ _ _ _ _ HO.out _).mono ?_; rintro e w3 ⟨rfl, hb3⟩
          have z3 := hb3.size
          go_wp2_with fail
          obtain ⟨w4, hw4⟩ : ∃ w4, w4 = w3.alloc (Obj.cells #[.int .i64 ox, .int .i64 oy, .int .i64 oa, .int .i64 ob, .int .i64 od] 27) := ⟨_, rfl⟩
          rw [← hw4]
          have BO : Blk w4 w3.heap.size #[.int .i64 ox, .int .i64 oy, .int .i64 oa, .int .i64 ob, .int .i64 od] 27 := by rw [hw4]; exact Blk.new _ _ _
          have BG4 : Blk w4 w1.heap.size #[.int .i64 gx, .int .i64 gy, .int .i64 ga, .int .i64 gb, .int .i64 gd] 27 := by rw [hw4]; exact (BG2.keep hb3).alloc _
          have hb4 : Below w2.heap.size w2 w4 := by rw [hw4]; exact ((hbr.trans (hb3.mono zr)).alloc (by omega) _)
          clear hw4 hb3 y1 c1 f1 y2 c2 f2
          have c0 := cell_regrown (BO.cell (i := 0) rfl)
          have d0 := cell_regrown (BG4.cell (i := 0) rfl)
          have c1 := cell_regrown (BO.cell (i := 1) rfl)
          have d1 := cell_regrown (BG4.cell (i := 1) rfl)
          have c2 := cell_regrown (BO.cell (i := 2) rfl)
          have d2 := cell_regrown (BG4.cell (i := 2) rfl)
          have c3 := cell_regrown (BO.cell (i := 3) rfl)
          have d3 := cell_regrown (BG4.cell (i := 3) rfl)
          have c4 := cell_regrown (BO.cell (i := 4) rfl)
          have d4 := cell_regrown (BG4.cell (i := 4) rfl)
          refine wp_region_quiet_below (by kernel_rfl) (by kernel_rfl) ?_
          repeat (go_big_quiet_step (first | (go_at_call 31; exact Calls.regrown_of (trace_v _ _ _ _ _ _ (by first | with_reducible exact TO.out | with_reducible exact TG.out) _))))
          refine wpQuiet_nil ?_
          intro wq hwq
          have hbq := below_of_regrown hwq
          clear hwq c0 c1 c2 c3 c4 d0 d1 d2 d3 d4
          have hbz := hb4.trans (hbq.mono hb4.size)
          clear hb4 hbq BO BG4 hbr
          go_wp2_with fail
          go_roundw
          case rel => exact ⟨1, by omega, by first | rfl | go_num, hbz⟩
          case measure => simp [intOf]
        · have nr : (r == 0) = false := by simp [hr]
          clear hl2
          go_wp2_with fail
          refine (fuse_v _ _ _ _ _ _ _ _ _ _ _ _ _ _ _ _ _ HO.out _).mono ?_; rintro e w3 ⟨rfl, hb3⟩
          have z3 := hb3.size
          go_wp2_with fail
          obtain ⟨w4, hw4⟩ : ∃ w4, w4 = w3.alloc (Obj.cells #[.int .i64 ox, .int .i64 oy, .int .i64 oa, .int .i64 ob, .int .i64 od] 27) := ⟨_, rfl⟩
          rw [← hw4]
          have BO : Blk w4 w3.heap.size #[.int .i64 ox, .int .i64 oy, .int .i64 oa, .int .i64 ob, .int .i64 od] 27 := by rw [hw4]; exact Blk.new _ _ _
          have BG4 : Blk w4 w1.heap.size #[.int .i64 gx, .int .i64 gy, .int .i64 ga, .int .i64 gb, .int .i64 gd] 27 := by rw [hw4]; exact (BG2.keep hb3).alloc _
          have hb4 : Below w2.heap.size w2 w4 := by rw [hw4]; exact ((hbr.trans (hb3.mono zr)).alloc (by omega) _)
          clear hw4 hb3 y1 c1 f1 y2 c2 f2
          have c0 := cell_regrown (BO.cell (i := 0) rfl)
          have d0 := cell_regrown (BG4.cell (i := 0) rfl)
          have c1 := cell_regrown (BO.cell (i := 1) rfl)
          have d1 := cell_regrown (BG4.cell (i := 1) rfl)
          have c2 := cell_regrown (BO.cell (i := 2) rfl)
          have d2 := cell_regrown (BG4.cell (i := 2) rfl)
          have c3 := cell_regrown (BO.cell (i := 3) rfl)
          have d3 := cell_regrown (BG4.cell (i := 3) rfl)
          have c4 := cell_regrown (BO.cell (i := 4) rfl)
          have d4 := cell_regrown (BG4.cell (i := 4) rfl)
          refine wp_region_quiet_below (by kernel_rfl) (by kernel_rfl) ?_
          repeat (go_big_quiet_step (first | (go_at_call 31; exact Calls.regrown_of (trace_v _ _ _ _ _ _ (by first | with_reducible exact TO.out | with_reducible exact TG.out) _))))
          refine wpQuiet_nil ?_
          intro wq hwq
          have hbq := below_of_regrown hwq
          clear hwq c0 c1 c2 c3 c4 d0 d1 d2 d3 d4
          have hbz := hb4.trans (hbq.mono hb4.size)
          clear hb4 hbq BO BG4 hbr
          go_wp2_with fail
          go_roundw
          case rel => exact ⟨1, by omega, by first | rfl | go_num, hbz⟩
          case measure => simp [intOf]
      · obtain ⟨⟨ox, oy, oa, ob, od⟩, r, ho⟩ : ∃ o r, fuseE ⟨x, y, a, b, d⟩ ⟨x', y', a', b', d'⟩ 21 = (o, r) := ⟨_, _, rfl⟩
        have hl := HW.out 21 (by decide)
        rw [ho] at hl
        obtain ⟨tz, hto⟩ : ∃ t, El.tr ⟨ox, oy, oa, ob, od⟩ = t := ⟨_, rfl⟩
        have hl2 : r = 0 → tg ≤ tz := fun h => by have := hl h; rw [TG.out, hto] at this; exact this
        have HO := Lib.hid ho
        have TO := Lib.hid hto
        clear hl ho hto
        obtain ⟨y1, c1, f1, -⟩ := hb_facts (BE.out.keep hbr)
        obtain ⟨y2, c2, f2, -⟩ := hb_facts (BF.out.keep hbr)
        have BG2 := BG.out.keep hbr
        by_cases hr : r = 0
        · subst hr
          have hl3 : ¬ tz < tg := by have := hl2 rfl; omega
          clear hl2
          go_wp2_with fail
          refine (fuse_v _ _ _ _ _ _ _ _ _ _ _ _ _ _ _ _ _ HO.out _).mono ?_; rintro e w3 ⟨rfl, hb3⟩
          have z3 := hb3.size
          go_wp2_with fail
          obtain ⟨w4, hw4⟩ : ∃ w4, w4 = w3.alloc (Obj.cells #[.int .i64 ox, .int .i64 oy, .int .i64 oa, .int .i64 ob, .int .i64 od] 27) := ⟨_, rfl⟩
          rw [← hw4]
          have BO : Blk w4 w3.heap.size #[.int .i64 ox, .int .i64 oy, .int .i64 oa, .int .i64 ob, .int .i64 od] 27 := by rw [hw4]; exact Blk.new _ _ _
          have BG4 : Blk w4 w1.heap.size #[.int .i64 gx, .int .i64 gy, .int .i64 ga, .int .i64 gb, .int .i64 gd] 27 := by rw [hw4]; exact (BG2.keep hb3).alloc _
          have hb4 : Below w2.heap.size w2 w4 := by rw [hw4]; exact ((hbr.trans (hb3.mono zr)).alloc (by omega) _)
          clear hw4 hb3 y1 c1 f1 y2 c2 f2
          have c0 := cell_regrown (BO.cell (i := 0) rfl)
          have d0 := cell_regrown (BG4.cell (i := 0) rfl)
          have c1 := cell_regrown (BO.cell (i := 1) rfl)
          have d1 := cell_regrown (BG4.cell (i := 1) rfl)
          have c2 := cell_regrown (BO.cell (i := 2) rfl)
          have d2 := cell_regrown (BG4.cell (i := 2) rfl)
          have c3 := cell_regrown (BO.cell (i := 3) rfl)
          have d3 := cell_regrown (BG4.cell (i := 3) rfl)
          have c4 := cell_regrown (BO.cell (i := 4) rfl)
          have d4 := cell_regrown (BG4.cell (i := 4) rfl)
          refine wp_region_quiet_below (by kernel_rfl) (by kernel_rfl) ?_
          repeat (go_big_quiet_step (first | (go_at_call 31; exact Calls.regrown_of (trace_v _ _ _ _ _ _ (by first | with_reducible exact TO.out | with_reducible exact TG.out) _))))
          refine wpQuiet_nil ?_
          intro wq hwq
          have hbq := below_of_regrown hwq
          clear hwq c0 c1 c2 c3 c4 d0 d1 d2 d3 d4
          have hbz := hb4.trans (hbq.mono hb4.size)
          clear hb4 hbq BO BG4 hbr
          go_wp2_with fail
          go_roundw
          case rel => exact ⟨2, by omega, by first | rfl | go_num, hbz⟩
          case measure => simp [intOf]
        · have nr : (r == 0) = false := by simp [hr]
          clear hl2
          go_wp2_with fail
          refine (fuse_v _ _ _ _ _ _ _ _ _ _ _ _ _ _ _ _ _ HO.out _).mono ?_; rintro e w3 ⟨rfl, hb3⟩
          have z3 := hb3.size
          go_wp2_with fail
          obtain ⟨w4, hw4⟩ : ∃ w4, w4 = w3.alloc (Obj.cells #[.int .i64 ox, .int .i64 oy, .int .i64 oa, .int .i64 ob, .int .i64 od] 27) := ⟨_, rfl⟩
          rw [← hw4]
          have BO : Blk w4 w3.heap.size #[.int .i64 ox, .int .i64 oy, .int .i64 oa, .int .i64 ob, .int .i64 od] 27 := by rw [hw4]; exact Blk.new _ _ _
          have BG4 : Blk w4 w1.heap.size #[.int .i64 gx, .int .i64 gy, .int .i64 ga, .int .i64 gb, .int .i64 gd] 27 := by rw [hw4]; exact (BG2.keep hb3).alloc _
          have hb4 : Below w2.heap.size w2 w4 := by rw [hw4]; exact ((hbr.trans (hb3.mono zr)).alloc (by omega) _)
          clear hw4 hb3 y1 c1 f1 y2 c2 f2
          have c0 := cell_regrown (BO.cell (i := 0) rfl)
          have d0 := cell_regrown (BG4.cell (i := 0) rfl)
          have c1 := cell_regrown (BO.cell (i := 1) rfl)
          have d1 := cell_regrown (BG4.cell (i := 1) rfl)
          have c2 := cell_regrown (BO.cell (i := 2) rfl)
          have d2 := cell_regrown (BG4.cell (i := 2) rfl)
          have c3 := cell_regrown (BO.cell (i := 3) rfl)
          have d3 := cell_regrown (BG4.cell (i := 3) rfl)
          have c4 := cell_regrown (BO.cell (i := 4) rfl)
          have d4 := cell_regrown (BG4.cell (i := 4) rfl)
          refine wp_region_quiet_below (by kernel_rfl) (by kernel_rfl) ?_
          repeat (go_big_quiet_step (first | (go_at_call 31; exact Calls.regrown_of (trace_v _ _ _ _ _ _ (by first | with_reducible exact TO.out | with_reducible exact TG.out) _))))
          refine wpQuiet_nil ?_
          intro wq hwq
          have hbq := below_of_regrown hwq
          clear hwq c0 c1 c2 c3 c4 d0 d1 d2 d3 d4
          have hbz := hb4.trans (hbq.mono hb4.size)
          clear hb4 hbq BO BG4 hbr
          go_wp2_with fail
          go_roundw
          case rel => exact ⟨2, by omega, by first | rfl | go_num, hbz⟩
          case measure => simp [intOf]
      · go_wp2_with fail
        refine (awake7_c _).mono ?_; rintro e w9 ⟨rfl, hb9⟩
        go_wp2
        go_ret
        exact ⟨rfl, hb0.trans (hb9.mono z0)⟩
      · omega
  · have hz := gfuse_zero _ _ hg hk
    injection hz with z1 z2 z3 z4 z5
    subst z1; subst z2; subst z3; subst z4; subst z5
    have n2 : (k != 0) = true := by simp [hk]
    clear hg
    go_enter Try.func10, Try.ntmps10
    go_wp2_with fail
    refine (gfuse_v _ _ _ _ _ _ _ _ _ _ _ _ _ _ _ _ HG.out _).mono ?_; rintro e w1 ⟨rfl, hb1⟩; have z_w1 := hb1.size; (try simp at z_w1); obtain ⟨y_w1_0_0, c_w1_0_0, f_w1_0_0, r_w1_0_0, t_w1_0_0, p_w1_0_0⟩ := bk hb1 (w.heap.size) (by first | omega | (simp; done) | (simp; omega) | fail); obtain ⟨y_w1_0_1, c_w1_0_1, f_w1_0_1, r_w1_0_1, t_w1_0_1, p_w1_0_1⟩ := bk hb1 (w.heap.size + 1) (by first | omega | (simp; done) | (simp; omega) | fail)
    go_wp2_with fail
    refine (awake7_c _).mono ?_; rintro e w9 ⟨rfl, hb9⟩
    go_wp2
    go_ret
    exact ⟨rfl, (by repeat (first | with_reducible exact Below.refl _ _ | with_reducible exact Below_of_hid (by assumption) | with_reducible refine Below.drew ?_ | with_reducible refine below_drewN ?_ _ | (with_reducible refine Below_putRow ?_ ?hB _ _; case hB => (first | omega | (simp; done) | (simp; omega))) | (with_reducible refine Below.alloc ?_ ?hB _; case hB => (first | omega | (simp; done) | (simp; omega))) | (with_reducible refine Below.setCell ?_ ?hB _; case hB => (first | omega | (simp; done) | (simp; omega))) | (with_reducible refine Below.trans ?_ (Below.mono (by assumption) ?hB); case hB => (first | omega | (simp; done) | (simp; omega)))))⟩
end Go.Proofs.Ytjfphfnfbgmlfaa
namespace Go.Proofs.Ytjfphfnfbgmlfaa.goldenWithin
open Go.ChangeShapes Go.WideShapes Go.ChangeAt Go.RowKit
set_option linter.unusedVariables false

theorem readable : ∀ t ∈ Try.f10.params.toList, Try.prog.readableRec t = true ∧ t < Try.prog.types.size := by
  rw [Try.params10]
  intro t ht
  simp at ht
  repeat' (rcases ht with rfl | ht)
  all_goals first | exact ⟨by kernel_rfl, of_decide_eq_true (by kernel_rfl)⟩ | (subst ht; exact ⟨by kernel_rfl, of_decide_eq_true (by kernel_rfl)⟩)

set_option maxRecDepth 100000 in
theorem lifted (os : Os) (started : os.Started) (H : Type) (enc : TypeId × Value → H) :
    ReturnsInHanded {} Try.checked os 10 .any (Rows.goldenWithinSpec.pre6 enc Try.prog Try.f10 Rows.goldenWithinRow.domain false) (Rows.goldenWithinSpec.post enc Try.prog Try.f10 false true false false) := by
  refine returnsInHanded_of_change (C := Try.checked) own started (by kernel_rfl) Try.func10
    (ChangeSpec.witness6 (enc := enc) (C := Try.checked) false ⟨#[], #[elC 0 0 0 0 0, elC 0 0 0 0 0], []⟩ 8 (by kernel_rfl) (by kernel_rfl) (by kernel_rfl) (by kernel_rfl)) ?_
  intro W base args ds gs before hval0 hW hcnd _
  have hval : ∀ (j : Nat) t v, Try.f10.params[j]? = some t → args[j]? = some v → Value.okWide Try.prog W .any base t v := hval0
  have hW' := hW
  obtain ⟨p, q, hA0, hV, rfl, hfz, hnd⟩ := hW
  have hA : DataW.TrodAll enc Try.prog W 0 (fun _ => true) true Try.f10.params.toList args.toList ds p := hA0
  have again := fun W' (hb : Below W.heap.size W W') => trodAll_again laidOut hb _ _ _ _ readable hA
  rw [Try.params10] at hA hval
  obtain ⟨v0, vs0, d0, ds0, p0, q0, hargs, rfl, rfl, g0, r0⟩ := trodAll_cons hA
  obtain ⟨v1, vs1, d1, ds1, p1, q1, rfl, rfl, rfl, g1, r1⟩ := trodAll_cons r0
  obtain ⟨rfl, rfl, rfl⟩ := trodAll_nil r1
  obtain rfl : args = #[v0, v1] := by cases args; simp_all
  obtain ⟨rfl, rfl⟩ := trodVars_none hV
  obtain ⟨x0_0, x0_1, x0_2, x0_3, x0_4, rfl, h0_0, h0_1, h0_2, h0_3, h0_4⟩ := open_el (hval 0 _ v0 rfl rfl)
  obtain ⟨x1_0, x1_1, x1_2, x1_3, x1_4, rfl, h1_0, h1_1, h1_2, h1_3, h1_4⟩ := open_el (hval 1 _ v1 rfl rfl)
  clear hA0 hval0
  refine (goldenWithin_c x0_0 x0_1 x0_2 x0_3 x0_4 x1_0 x1_1 x1_2 x1_3 x1_4 W).mono fun e W' ⟨he, bel⟩ => ?_
  subst he
  exact ⟨_, rfl, _, _, _, [], _, [], hW', trodAll_mk1 (shut_bool Try.underlying4 _), again W' bel, rfl, bel.frame _, fun h => by cases h⟩

theorem over : Rows.goldenWithinRow.holds Try.pinned (OpenSpec.ofChange Rows.goldenWithinSpec) :=
  OpenClaim.holds_of_wide 10 Try.f10 rfl rfl rfl rfl rfl rfl rfl ⟨rfl, rfl, rfl, rfl, rfl⟩ rfl rfl rfl rfl rfl (by kernel_rfl) Try.func10 (by kernel_rfl)
    (of_decide_eq_true (by kernel_rfl)) (by unfold Func.isWrapper; first | (rw [if_pos (by decide +kernel)]; kernel_rfl) | (rw [if_neg (by decide +kernel)]; exact ⟨rfl, rfl⟩))
    (fun os started H enc _ => lifted os started H enc)

theorem proved : Rows.GoldenWithinSaid := over
#print axioms proved
end Go.Proofs.Ytjfphfnfbgmlfaa.goldenWithin
