/- The walks of the document's Det, Psd, Quad, Holds. -/
import Derived.Test.YtdipecepgfaokaaR15
import Derived.Test.YtdipecepgfaokaaRb
namespace Go.Proofs.Ytdipecepgfaokaa
set_option linter.unusedSimpArgs false
set_option linter.unusedVariables false
set_option linter.unusedSimpArgs false
open Go.RowKit

theorem det_x (a b d : Value) (x y z t : WI) (w : World) (ht : Hid ((x.mul z).sub (y.mul y) = t)) (hx : BigIs w a x) (hy : BigIs w b y) (hz : BigIs w d z) :
    Calls Try.prog 42 #[a, b, d] w fun e w' => (∃ v, e = .returned v ∧ BigIs w' v t) ∧ Below w.heap.size w w' := by
  rw [← ht.out]; exact det_r a b d x y z w hx hy hz
set_option maxRecDepth 100000 in
set_option maxHeartbeats 1000000 in
/-- Det. -/
theorem matdet_r (a b d : Int) (ha : I64 a) (hb : I64 b) (hd : I64 d) (w : World) :
    Calls Try.prog 38 #[symV a b d] w fun e w' => (∃ v, e = .returned v ∧ BigIs w' v (WI.of (a * d - b * b))) ∧ Below w.heap.size w w' := by
  have E := of_both a b d ha.sm hb.sm hd.sm
  have K : Hid (I64 a ∧ I64 b ∧ I64 d) := ⟨ha, hb, hd⟩
  obtain ⟨x2, hx2⟩ : ∃ t, t = WI.of (a * d - b * b) := ⟨_, rfl⟩
  rw [← hx2] at E ⊢
  have HV := Lib.hid E
  clear ha hb hd hx2 E
  go_enter Try.func38, Try.ntmps38
  go_wp2_with fail
  have HB : Hid (Below w.heap.size w (((w).alloc (Obj.cells #[.int .i64 a, .int .i64 b, .int .i64 d] 25)).alloc (Obj.cells #[.bool false, .bool false, .slice none 0 0] 73)).drew) := (by repeat (first | exact Below.refl _ _ | exact Below_of_hid (by assumption) | refine Below.drew ?_ | refine below_drewN ?_ _ | refine Below_putRow ?_ (by first | omega | (simp; done) | (simp; omega) | fail) _ _ | refine Below.alloc ?_ (by first | omega | (simp; done) | (simp; omega) | fail) _ | refine Below.setCell ?_ (by first | omega | (simp; done) | (simp; omega) | fail) _ | refine Below.trans ?_ (Below.mono (by assumption) (by first | omega | (simp; done) | (simp; omega) | fail))))
  have qs0 := @inh_cell _ _ _ (show (((w).alloc (Obj.cells #[.int .i64 a, .int .i64 b, .int .i64 d] 25)).alloc (Obj.cells #[.bool false, .bool false, .slice none 0 0] 73)).cell? ⟨w.heap.size, 0, none⟩ = some (.int .i64 a) from (by go_simp))
  have qs1 := @inh_cell _ _ _ (show (((w).alloc (Obj.cells #[.int .i64 a, .int .i64 b, .int .i64 d] 25)).alloc (Obj.cells #[.bool false, .bool false, .slice none 0 0] 73)).cell? ⟨w.heap.size, 1, none⟩ = some (.int .i64 b) from (by go_simp))
  have qs2 := @inh_cell _ _ _ (show (((w).alloc (Obj.cells #[.int .i64 a, .int .i64 b, .int .i64 d] 25)).alloc (Obj.cells #[.bool false, .bool false, .slice none 0 0] 73)).cell? ⟨w.heap.size, 2, none⟩ = some (.int .i64 d) from (by go_simp))
  refine wp_region_ghost' 10 (fun k => match k with | 2 => some (gBig (WI.of a)) | 5 => some (gBig (WI.of b)) | 8 => some (gBig (WI.of d)) | 9 => some (gBig x2) | _ => none) (fun k => match k with | 9 => [2, 5, 8] | _ => []) (by kernel_rfl) (by kernel_rfl) ?_; refine ex_listH ?_; apply Exists.intro; refine ex_listH ?_; apply Exists.intro; refine ex_listH ⟨undef, ?_⟩; refine ex_listH ?_; apply Exists.intro; refine ex_listH ?_; apply Exists.intro; refine ex_listH ⟨undef, ?_⟩; refine ex_listH ?_; apply Exists.intro; refine ex_listH ?_; apply Exists.intro; refine ex_listH ⟨undef, ?_⟩; refine ex_listH ⟨undef, ?_⟩; refine ⟨[], fun gg NN hN => ?_⟩; simp only [List.append_eq, List.cons_append, List.nil_append, List.take_succ_cons, List.take_zero, List.drop_succ_cons, List.drop_zero]; (refine lexH_quiet rfl ?_; go_big_quiet_step (first | exact rfl | (fail)); refine wpQuiet_nil ⟨?hd, ?_⟩; (case hd => (simp only [dstVh, Array.getD_eq_getD_getElem?, List.getElem?_toArray, List.getElem?_cons_zero, List.getElem?_cons_succ, Option.getD_some, List.getD_cons_zero, List.getD_cons_succ]; exact rfl))); (refine lexH_quiet rfl ?_; go_big_quiet_step (first | exact rfl | (fail)); refine wpQuiet_nil ⟨?hd, ?_⟩; (case hd => (simp only [dstVh, Array.getD_eq_getD_getElem?, List.getElem?_toArray, List.getElem?_cons_zero, List.getElem?_cons_succ, Option.getD_some, List.getD_cons_zero, List.getD_cons_succ]; exact rfl))); (refine lexH_ghost _ (by rfl) (by rfl) ?hex ?_; (case hex => (intro px; refine ghost_call (fn := 43) (by go_simp; rfl) ?_; exact of_r _ K.out.1.1 K.out.1.2 _)); simp only [Act.put, List.setIfInBounds_toArray, List.set_cons_succ, List.set_cons_zero]); (refine lexH_quiet rfl ?_; go_big_quiet_step (first | exact rfl | (fail)); refine wpQuiet_nil ⟨?hd, ?_⟩; (case hd => (simp only [dstVh, Array.getD_eq_getD_getElem?, List.getElem?_toArray, List.getElem?_cons_zero, List.getElem?_cons_succ, Option.getD_some, List.getD_cons_zero, List.getD_cons_succ]; exact rfl))); (refine lexH_quiet rfl ?_; go_big_quiet_step (first | exact rfl | (fail)); refine wpQuiet_nil ⟨?hd, ?_⟩; (case hd => (simp only [dstVh, Array.getD_eq_getD_getElem?, List.getElem?_toArray, List.getElem?_cons_zero, List.getElem?_cons_succ, Option.getD_some, List.getD_cons_zero, List.getD_cons_succ]; exact rfl))); (refine lexH_ghost _ (by rfl) (by rfl) ?hex ?_; (case hex => (intro px; refine ghost_call (fn := 43) (by go_simp; rfl) ?_; exact of_r _ K.out.2.1.1 K.out.2.1.2 _)); simp only [Act.put, List.setIfInBounds_toArray, List.set_cons_succ, List.set_cons_zero]); (refine lexH_quiet rfl ?_; go_big_quiet_step (first | exact rfl | (fail)); refine wpQuiet_nil ⟨?hd, ?_⟩; (case hd => (simp only [dstVh, Array.getD_eq_getD_getElem?, List.getElem?_toArray, List.getElem?_cons_zero, List.getElem?_cons_succ, Option.getD_some, List.getD_cons_zero, List.getD_cons_succ]; exact rfl))); (refine lexH_quiet rfl ?_; go_big_quiet_step (first | exact rfl | (fail)); refine wpQuiet_nil ⟨?hd, ?_⟩; (case hd => (simp only [dstVh, Array.getD_eq_getD_getElem?, List.getElem?_toArray, List.getElem?_cons_zero, List.getElem?_cons_succ, Option.getD_some, List.getD_cons_zero, List.getD_cons_succ]; exact rfl))); (refine lexH_ghost _ (by rfl) (by rfl) ?hex ?_; (case hex => (intro px; refine ghost_call (fn := 43) (by go_simp; rfl) ?_; exact of_r _ K.out.2.2.1 K.out.2.2.2 _)); simp only [Act.put, List.setIfInBounds_toArray, List.set_cons_succ, List.set_cons_zero]); (refine lexH_ghost _ (by rfl) (by rfl) ?hex ?_; (case hex => (intro px; refine ghost_call (fn := 42) (by go_simp; rfl) ?_; exact det_x _ _ _ _ _ _ _ _ HV (px.has 2 (hN 9 2 (by simp)) _ rfl) (px.has 5 (hN 9 5 (by simp)) _ rfl) (px.has 8 (hN 9 8 (by simp)) _ rfl))); simp only [Act.put, List.setIfInBounds_toArray, List.set_cons_succ, List.set_cons_zero])
  refine lexH_nil ?_
  intro w1 hb1' hh
  have hb1 : Below (((w).alloc (Obj.cells #[.int .i64 a, .int .i64 b, .int .i64 d] 25)).alloc (Obj.cells #[.bool false, .bool false, .slice none 0 0] 73)).heap.size (((w).alloc (Obj.cells #[.int .i64 a, .int .i64 b, .int .i64 d] 25)).alloc (Obj.cells #[.bool false, .bool false, .slice none 0 0] 73)) w1 := hb1'
  obtain ⟨A2, cap2, e7, hs2⟩ := (show BigIs w1 (gg 9) x2 from hh 9 _ (by decide) rfl).opened
  have HS2 := Lib.hid hs2
  rw [e7]
  clear hb1' hh hs2 e7 qs0 qs1 qs2
  have z_w1 := hb1.size; (try simp at z_w1); obtain ⟨y_w1_0_0, c_w1_0_0, f_w1_0_0, r_w1_0_0, t_w1_0_0, p_w1_0_0⟩ := bk hb1 (w.heap.size) (by first | omega | (simp; done) | (simp; omega) | fail); obtain ⟨y_w1_0_1, c_w1_0_1, f_w1_0_1, r_w1_0_1, t_w1_0_1, p_w1_0_1⟩ := bk hb1 (w.heap.size + 1) (by first | omega | (simp; done) | (simp; omega) | fail)
  go_wp2_with fail
  refine bodyPost_row 3 #[.bool x2.ng, .bool x2.ov, .slice A2 (dg x2.sz).length cap2] rfl rfl rfl Try.underlying73 rfl (by kernel_rfl) (row_of_cells 2 _ rfl (by intro i hi; rcases i with _ | _ | _ | i; (go_simp); (go_simp); (go_simp); exact absurd hi (by omega))) ⟨⟨_, rfl, BigIs.mk (HS2.out.res (by go_simp) (by go_simp) (by go_simp) _ _ _)⟩, (by repeat (first | exact Below.refl _ _ | exact Below_of_hid (by assumption) | refine Below.drew ?_ | refine below_drewN ?_ _ | refine Below_putRow ?_ (by first | omega | (simp; done) | (simp; omega) | fail) _ _ | refine Below.alloc ?_ (by first | omega | (simp; done) | (simp; omega) | fail) _ | refine Below.setCell ?_ (by first | omega | (simp; done) | (simp; omega) | fail) _ | refine Below.trans ?_ (Below.mono (by assumption) (by first | omega | (simp; done) | (simp; omega) | fail))))⟩
/-- A block of one's own, made anew, at B or behind it. -/
def gCell (B : Nat) (cs : Array Value) (t : TypeId) : Ghost where
  holds := fun w v => ∃ g, v = .pointer (some ⟨g, 0, none⟩) ∧ B ≤ g ∧ Blk w g cs t
  stable := fun ⟨g, h1, h2, h3⟩ hb => ⟨g, h1, h2, h3.keep hb⟩
  own := fun v => match v with | .pointer (some ⟨g, _, _⟩) => some g | _ => none
  lt := fun ⟨g, h1, _, h2⟩ e => by subst h1; cases e; exact h2.lt
theorem ghost_alloc {P : Program} {w : World} {r : Result Next} {B : Nat} {cs : Array Value} {t : TypeId} (hB : B ≤ w.heap.size) (hr : r = .ok (.value (.pointer (some ⟨w.heap.size, 0, none⟩))) (w.alloc (.cells cs t))) : ghostUpon P (gCell B cs t) w r := by
  subst hr
  exact ⟨⟨_, rfl, hB, Blk.new _ _ _⟩, (Below.refl _ _).alloc (Nat.le_refl _) _, fun b e => by cases e; exact Nat.le_refl _⟩
theorem BigAt.zero {w : World} {g : Nat} (h : Blk w g #[.bool false, .bool false, .slice none 0 0] 73) : BigAt w g (WI.of 0) := by
  have h1 : (WI.of 0).sz = 0 := by unfold WI.sz; rw [WI.of_v (by simpa using lim_pos)]; rfl
  have h2 : (WI.of 0).ng = false := by unfold WI.ng; rw [WI.of_v (by simpa using lim_pos)]; rfl
  have h3 : (WI.of 0).ov = false := by unfold WI.ov; rw [WI.of_v (by simpa using lim_pos)]; rfl
  refine ⟨none, 0, ?_, ?_⟩
  · unfold bigC; rw [h1, h2, h3, dg_zero]; exact h
  · rw [h1, dg_zero]; exact Rd.nil _
theorem BigAt.put_other {w : World} {g g' : Nat} {x y : WI} (h : BigAt w g x) (h' : BigAt w g' y) (hne : g ≠ g') (v0 v1 v2 : Value) : BigAt (((w.setCell ⟨g', 0, none⟩ v0).setCell ⟨g', 1, none⟩ v1).setCell ⟨g', 2, none⟩ v2) g x := by
  obtain ⟨A, c, h1, h2⟩ := h
  obtain ⟨A', c', h3, -⟩ := h'
  exact ⟨A, c, ((h1.setCell_other (by simpa using hne) _).setCell_other (by simpa using hne) _).setCell_other (by simpa using hne) _, h2.set3 (h3.cell (i := 0) rfl) (h3.cell (i := 1) rfl) (h3.cell (i := 2) rfl) _ _ _⟩
theorem quad_parts (a b d x y : Int) (ha : I64 a) (hb : I64 b) (hd : I64 d) (hx : I64 x) (hy : I64 y) :
    (WI.of x).mul (WI.of x) = WI.of (x * x) ∧ (WI.of a).mul (WI.of (x * x)) = WI.of (a * (x * x)) ∧ (WI.of (x * y)).add (WI.of (x * y)) = WI.of (x * y + x * y) ∧ (WI.of b).mul (WI.of (x * y + x * y)) = WI.of (b * (x * y + x * y)) ∧
    (WI.of (a * (x * x))).add (WI.of (b * (x * y + x * y))) = WI.of (a * (x * x) + b * (x * y + x * y)) ∧ (WI.of y).mul (WI.of y) = WI.of (y * y) ∧ (WI.of d).mul (WI.of (y * y)) = WI.of (d * (y * y)) ∧
    (WI.of (a * (x * x) + b * (x * y + x * y))).add (WI.of (d * (y * y))) = WI.of (a * (x * x) + d * (y * y) + (b * (x * y) + b * (x * y))) := by
  have A := Sm.of64 ha.1 ha.2
  have B := Sm.of64 hb.1 hb.2
  have D := Sm.of64 hd.1 hd.2
  have X := Sm.of64 hx.1 hx.2
  have Y := Sm.of64 hy.1 hy.2
  have XX := X.mul X
  have YY := Y.mul Y
  have XY := X.mul Y
  have AXX := A.mul XX
  have S := XY.add XY
  have BS := B.mul S
  have DYY := D.mul YY
  have AB := (AXX.mono (k := 190) (by decide)).add (BS.mono (k := 190) (by decide))
  refine ⟨WI.of_mul (X.lim (by decide)) (X.lim (by decide)), WI.of_mul (A.lim (by decide)) (XX.lim (by decide)), WI.of_add (XY.lim (by decide)) (XY.lim (by decide)), WI.of_mul (B.lim (by decide)) (S.lim (by decide)), WI.of_add (AXX.lim (by decide)) (BS.lim (by decide)), WI.of_mul (Y.lim (by decide)) (Y.lim (by decide)), WI.of_mul (D.lim (by decide)) (YY.lim (by decide)), ?_⟩
  rw [WI.of_add (AB.lim (by decide)) (DYY.lim (by decide))]
  congr 1
  grind
end Go.Proofs.Ytdipecepgfaokaa
