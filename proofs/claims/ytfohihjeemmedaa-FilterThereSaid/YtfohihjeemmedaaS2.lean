/- awake of the laws of esmf; FilterNil. -/
import Derived.Test.YtfohihjeemmedaaS1
import Derived.Lib.QuietBelow
import Derived.BigQuiet
namespace Go.Proofs.Ytfohihjeemmedaa
open Go.RowKit

theorem set_v (g : Nat) (m : Int) (v : Bool) (x y a b d x' y' a' b' d' : Int) (v1 : Bool) (x1 y1 a1 b1 d1 k : Int) (h : setS m v ⟨x, y, a, b, d⟩ ⟨x', y', a', b', d'⟩ = ((v1, ⟨x1, y1, a1, b1, d1⟩), k)) (w : World) (B : Blk w g (flt m v x y a b d) 75) :
    Calls Try.prog 19 #[.pointer (some ⟨g, 0, none⟩), elC x' y' a' b' d'] w fun e w' => e = .returned (.int .i64 k) ∧ OnlyAt g w w' ∧ Blk w' g (flt m v1 x1 y1 a1 b1 d1) 75 := by
  refine (set_c g m v x y a b d x' y' a' b' d' w B).mono ?_
  rintro e w' ⟨v2, e2, k2, hs, he, ho, hb⟩
  rw [h] at hs
  injection hs with h1 h2
  injection h1 with h3 h4
  subst h2; subst h3; subst h4
  exact ⟨he, ho, hb⟩
theorem bk_o {w : World} {b : Nat} {c : Array Value} {t : TypeId} (h : Blk w b c t) :
    b < w.heap.size ∧ (∀ o, w.cell? ⟨b, o, none⟩ = c[o]?) ∧ (∀ o, w.frozen? ⟨b, o, none⟩ = false) ∧ w.row? b 0 c.size = some c :=
  ⟨h.lt, h.at, h.frozen, h.row?_all _ rfl⟩
theorem el_cells {w : World} {g : Nat} {x y a b d : Int} {t : TypeId} (C : Blk w g #[.int .i64 x, .int .i64 y, .int .i64 a, .int .i64 b, .int .i64 d] t) :
    w.cell? ⟨g, 0, none⟩ = some (.int .i64 x) ∧ w.cell? ⟨g, 1, none⟩ = some (.int .i64 y) ∧ w.cell? ⟨g, 2, none⟩ = some (.int .i64 a) ∧ w.cell? ⟨g, 3, none⟩ = some (.int .i64 b) ∧ w.cell? ⟨g, 4, none⟩ = some (.int .i64 d) :=
  ⟨C.cell rfl, C.cell rfl, C.cell rfl, C.cell rfl, C.cell rfl⟩
set_option maxRecDepth 100000 in
set_option maxHeartbeats 4000000 in
theorem awake18_c (w : World) : Calls Try.prog 17 #[] w fun e w' => e = .returned (.bool true) ∧ Below w.heap.size w w' := by
  have h8 : Hid (ballE 0 0 8 = (⟨0, 0, 64, 0, 64⟩, 0)) := show _ = _ from rfl
  have h7 : Hid (ballE 0 0 7 = (⟨0, 0, 49, 0, 49⟩, 0)) := show _ = _ from rfl
  have s1 : Hid (setS 100 false ⟨0, 0, 0, 0, 0⟩ ⟨0, 0, 64, 0, 64⟩ = ((false, ⟨0, 0, 0, 0, 0⟩), 2)) := show _ = _ from by
    unfold setS; rw [if_pos (by decide), if_pos (by decide)]
  have s2 : Hid (setS 100 false ⟨0, 0, 0, 0, 0⟩ ⟨0, 0, 49, 0, 49⟩ = ((true, ⟨0, 0, 49, 0, 49⟩), 0)) := show _ = _ from by
    unfold setS; rw [if_pos (by decide), if_neg (by decide)]
  go_enter Try.func17, Try.ntmps17
  go_wp2_with fail
  refine (new_c _ _).mono ?_; rintro e w1 ⟨g, rfl, lg, B1, hb1⟩
  rw [show max (2 : Int) 100 = 100 by decide] at B1
  have z1 := hb1.size
  have HB1 := Lib.hid B1
  clear B1
  go_wp2_with fail
  refine (ellball_v _ _ _ _ _ _ _ _ _ h8.out _).mono ?_; rintro e w2 ⟨rfl, hb2⟩
  have HB2 := Lib.hid (HB1.out.keep hb2)
  have HL2 : Hid (Below w.heap.size w w2) := (show Below _ _ _ from (by repeat (first | with_reducible exact Below.refl _ _ | with_reducible exact Below_of_hid (by assumption) | with_reducible refine Below.drew ?_ | with_reducible refine below_drewN ?_ _ | (with_reducible refine Below_putRow ?_ ?hB _ _; case hB => (first | omega | (simp; done) | (simp; omega))) | (with_reducible refine Below.alloc ?_ ?hB _; case hB => (first | omega | (simp; done) | (simp; omega))) | (with_reducible refine Below.setCell ?_ ?hB _; case hB => (first | omega | (simp; done) | (simp; omega))) | (with_reducible refine Below.trans ?_ (Below.mono (by assumption) ?hB); case hB => (first | omega | (simp; done) | (simp; omega))))))
  have z2 : w.heap.size ≤ w2.heap.size := HL2.out.size
  clear hb1 hb2
  go_wp2_with fail
  refine (ellball_v _ _ _ _ _ _ _ _ _ h7.out _).mono ?_; rintro e w3 ⟨rfl, hb3⟩
  have B8 : Hid (Blk w3 w2.heap.size #[.int .i64 0, .int .i64 0, .int .i64 64, .int .i64 0, .int .i64 64] 27) := (Blk.new _ _ _).keep hb3
  have HB3 := Lib.hid ((HB2.out.alloc _).keep hb3)
  have HL3 : Hid (Below w.heap.size w w3) := (show Below _ _ _ from (by repeat (first | with_reducible exact Below.refl _ _ | with_reducible exact Below_of_hid (by assumption) | with_reducible refine Below.drew ?_ | with_reducible refine below_drewN ?_ _ | (with_reducible refine Below_putRow ?_ ?hB _ _; case hB => (first | omega | (simp; done) | (simp; omega))) | (with_reducible refine Below.alloc ?_ ?hB _; case hB => (first | omega | (simp; done) | (simp; omega))) | (with_reducible refine Below.setCell ?_ ?hB _; case hB => (first | omega | (simp; done) | (simp; omega))) | (with_reducible refine Below.trans ?_ (Below.mono (by assumption) ?hB); case hB => (first | omega | (simp; done) | (simp; omega))))))
  have z3 := hb3.size; (try simp at z3)
  clear hb3
  have lg3 := HB2.out.lt
  have ng : ¬ (w2.heap.size = g) := by omega
  have ng3 : ¬ (w3.heap.size = g) := by omega
  obtain ⟨w4, hw4⟩ : ∃ w4, w4 = w3.alloc (Obj.cells #[.int .i64 0, .int .i64 0, .int .i64 49, .int .i64 0, .int .i64 49] 27) := ⟨_, rfl⟩
  go_wp2_with fail
  rw [← hw4]
  have B7 : Hid (Blk w4 w3.heap.size #[.int .i64 0, .int .i64 0, .int .i64 49, .int .i64 0, .int .i64 49] 27) := by rw [hw4]; exact Blk.new _ _ _
  have B8' : Hid (Blk w4 w2.heap.size #[.int .i64 0, .int .i64 0, .int .i64 64, .int .i64 0, .int .i64 64] 27) := by rw [hw4]; exact B8.out.alloc _
  have HB4 : Hid (Blk w4 g (flt 100 false 0 0 0 0 0) 75) := by rw [hw4]; exact HB3.out.alloc _
  have HL4 : Hid (Below w.heap.size w w4) := by rw [hw4]; exact (show Below _ _ _ from (by repeat (first | with_reducible exact Below.refl _ _ | with_reducible exact Below_of_hid (by assumption) | with_reducible refine Below.drew ?_ | with_reducible refine below_drewN ?_ _ | (with_reducible refine Below_putRow ?_ ?hB _ _; case hB => (first | omega | (simp; done) | (simp; omega))) | (with_reducible refine Below.alloc ?_ ?hB _; case hB => (first | omega | (simp; done) | (simp; omega))) | (with_reducible refine Below.setCell ?_ ?hB _; case hB => (first | omega | (simp; done) | (simp; omega))) | (with_reducible refine Below.trans ?_ (Below.mono (by assumption) ?hB); case hB => (first | omega | (simp; done) | (simp; omega))))))
  clear hw4 B8
  have C8 := B8'.out
  have C7 := B7.out
  have CG := HB4.out
  have CO : OnlyAt g w4 w4 := OnlyAt.refl
  have r8 := el_cells C8
  have r7 := el_cells C7
  go_region_held3 (fun w' => (w'.cell? ⟨w2.heap.size, 0, none⟩ = some (.int .i64 0) ∧ w'.cell? ⟨w2.heap.size, 1, none⟩ = some (.int .i64 0) ∧ w'.cell? ⟨w2.heap.size, 2, none⟩ = some (.int .i64 64) ∧ w'.cell? ⟨w2.heap.size, 3, none⟩ = some (.int .i64 0) ∧ w'.cell? ⟨w2.heap.size, 4, none⟩ = some (.int .i64 64)) ∧ (w'.cell? ⟨w3.heap.size, 0, none⟩ = some (.int .i64 0) ∧ w'.cell? ⟨w3.heap.size, 1, none⟩ = some (.int .i64 0) ∧ w'.cell? ⟨w3.heap.size, 2, none⟩ = some (.int .i64 49) ∧ w'.cell? ⟨w3.heap.size, 3, none⟩ = some (.int .i64 0) ∧ w'.cell? ⟨w3.heap.size, 4, none⟩ = some (.int .i64 49))) (first | exact ⟨r8, r7⟩ | go_simp)
    (first | (go_at_call 19; refine Calls.mono (set_v _ _ _ _ _ _ _ _ _ _ _ _ _ _ _ _ _ _ _ _ (by first | with_reducible exact s1.out | with_reducible exact s2.out) _ (by exact CG)) ?_; rintro e w5 ⟨rfl, ho5, CG⟩; have CO : OnlyAt g w4 w5 := (by first | exact OnlyAt.trans CO ho5 | exact OnlyAt.trans (OnlyAt.drew CO) ho5); have C8 : Blk w5 w2.heap.size #[.int .i64 0, .int .i64 0, .int .i64 64, .int .i64 0, .int .i64 64] 27 := (by first | exact OnlyAt.blk ho5 C8 ng | exact OnlyAt.blk ho5 (Blk.drew C8) ng); have C7 : Blk w5 w3.heap.size #[.int .i64 0, .int .i64 0, .int .i64 49, .int .i64 0, .int .i64 49] 27 := (by first | exact OnlyAt.blk ho5 C7 ng3 | exact OnlyAt.blk ho5 (Blk.drew C7) ng3); have r8 := el_cells C8; have r7 := el_cells C7))
  have BEL5 : Below w.heap.size w w5 := OnlyAt.below CO HL4.out (Nat.le_refl _) lg
  have z5 := BEL5.size
  obtain ⟨wz, hwz⟩ : ∃ wz, wz = w5 := ⟨_, rfl⟩
  go_wp2_with fail
  have s0 := cell_regrown (C7.cell (i := 0) rfl)
  have s1 := cell_regrown (C7.cell (i := 1) rfl)
  have s2 := cell_regrown (C7.cell (i := 2) rfl)
  have s3 := cell_regrown (C7.cell (i := 3) rfl)
  have s4 := cell_regrown (C7.cell (i := 4) rfl)
  refine wp_region_quiet_below (by kernel_rfl) (by kernel_rfl) ?_
  repeat (go_big_quiet_step (first
    | (go_at_call 21; exact Calls.regrown_of (valid_c _ _ _ _ _ _ _ _ _ (Blk.keep CG (below_regrown _ _ _))))
    | (go_at_call 22; exact Calls.regrown_of (e_c _ _ _ _ _ _ _ _ _ (Blk.keep CG (below_regrown _ _ _))))))
  refine wpQuiet_nil ?_
  intro wq hwq
  have hbq := below_of_regrown hwq
  clear hwq
  go_wp2
  go_ret
  exact ⟨rfl, Below.trans BEL5 (hbq.mono z5)⟩
theorem filterNil_c (do_ x y a b d ux uy err lo hi : Int) (w : World) : Calls Try.prog 7 #[.agg #[.int .i64 do_, .int .i64 x, .int .i64 y, .int .i64 a, .int .i64 b, .int .i64 d, .int .i64 ux, .int .i64 uy, .int .i64 err, .int .i64 lo, .int .i64 hi]] w fun e w' => e = .returned (.bool true) ∧ Below w.heap.size w w' := by
  go_enter Try.func7, Try.ntmps7
  go_wp2_with fail
  refine (nil_lose _).mono ?_; rintro e w1 ⟨rfl, hb1⟩; have z_w1 := hb1.size; (try simp at z_w1); obtain ⟨y_w1_0_0, c_w1_0_0, f_w1_0_0, r_w1_0_0, t_w1_0_0, p_w1_0_0⟩ := bk hb1 (w.heap.size) (by first | omega | (simp; done) | (simp; omega) | fail)
  go_wp2_with fail
  refine (nil_valid _).mono ?_; rintro e w2 ⟨rfl, hb2⟩; have z_w2 := hb2.size; (try simp at z_w2); obtain ⟨y_w2_0_0, c_w2_0_0, f_w2_0_0, r_w2_0_0, t_w2_0_0, p_w2_0_0⟩ := bk hb2 (w.heap.size) (by first | omega | (simp; done) | (simp; omega) | fail)
  go_wp2_with fail
  refine (nil_e _).mono ?_; rintro e w3 ⟨rfl, hb3⟩; have z_w3 := hb3.size; (try simp at z_w3); obtain ⟨y_w3_0_0, c_w3_0_0, f_w3_0_0, r_w3_0_0, t_w3_0_0, p_w3_0_0⟩ := bk hb3 (w.heap.size) (by first | omega | (simp; done) | (simp; omega) | fail)
  go_wp2_with fail
  refine (nil_set _ _ _ _ _ _).mono ?_; rintro e w4 ⟨rfl, hb4⟩; have z_w4 := hb4.size; (try simp at z_w4); obtain ⟨y_w4_0_0, c_w4_0_0, f_w4_0_0, r_w4_0_0, t_w4_0_0, p_w4_0_0⟩ := bk hb4 (w.heap.size) (by first | omega | (simp; done) | (simp; omega) | fail)
  go_wp2_with fail
  refine (nil_move _ _ _ _).mono ?_; rintro e w5 ⟨rfl, hb5⟩; have z_w5 := hb5.size; (try simp at z_w5); obtain ⟨y_w5_0_0, c_w5_0_0, f_w5_0_0, r_w5_0_0, t_w5_0_0, p_w5_0_0⟩ := bk hb5 (w.heap.size) (by first | omega | (simp; done) | (simp; omega) | fail)
  go_wp2_with fail
  refine (nil_range _ _ _ _ _ _ _ _).mono ?_; rintro e w6 ⟨rfl, hb6⟩; have z_w6 := hb6.size; (try simp at z_w6); obtain ⟨y_w6_0_0, c_w6_0_0, f_w6_0_0, r_w6_0_0, t_w6_0_0, p_w6_0_0⟩ := bk hb6 (w.heap.size) (by first | omega | (simp; done) | (simp; omega) | fail)
  go_wp2_with fail
  refine (nil_meet _ _ _ _ _ _).mono ?_; rintro e w7 ⟨rfl, hb7⟩; have z_w7 := hb7.size; (try simp at z_w7); obtain ⟨y_w7_0_0, c_w7_0_0, f_w7_0_0, r_w7_0_0, t_w7_0_0, p_w7_0_0⟩ := bk hb7 (w.heap.size) (by first | omega | (simp; done) | (simp; omega) | fail)
  go_wp2_with fail
  refine (awake18_c _).mono ?_; rintro e w8 ⟨rfl, hb8⟩
  have z8 := hb8.size
  go_wp2
  go_ret
  exact ⟨rfl, (by repeat (first | with_reducible exact Below.refl _ _ | with_reducible exact Below_of_hid (by assumption) | with_reducible refine Below.drew ?_ | with_reducible refine below_drewN ?_ _ | (with_reducible refine Below_putRow ?_ ?hB _ _; case hB => (first | omega | (simp; done) | (simp; omega))) | (with_reducible refine Below.alloc ?_ ?hB _; case hB => (first | omega | (simp; done) | (simp; omega))) | (with_reducible refine Below.setCell ?_ ?hB _; case hB => (first | omega | (simp; done) | (simp; omega))) | (with_reducible refine Below.trans ?_ (Below.mono (by assumption) ?hB); case hB => (first | omega | (simp; done) | (simp; omega)))))⟩
end Go.Proofs.Ytfohihjeemmedaa
