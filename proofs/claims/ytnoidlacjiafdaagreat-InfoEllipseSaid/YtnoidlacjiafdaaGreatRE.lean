/- The walks of the document's Sign, det, psd, Det, Psd, Quad, Holds. The walks of the document's Det, Psd, Quad, Holds. The walks of the document's MayMat, Adj, AddMat, Least. -/
import Derived.Test.YtnoidlacjiafdaaGreatRC
import Derived.Test.YtnoidlacjiafdaaGreatBM
import Derived.Test.YtnoidlacjiafdaaGreatRD
namespace Go.Proofs.YtnoidlacjiafdaaGreat
set_option linter.unusedSimpArgs false
set_option linter.unusedVariables false
set_option linter.unusedSimpArgs false
open Go.RowKit

set_option maxRecDepth 100000 in
set_option maxHeartbeats 1000000 in
/-- Sign. -/
theorem sign_r (v : Value) (x : WI) (w : World) (hx : BigIs w v x) :
    Calls Tryz.prog 29 #[v] w fun e w' => e = .returned (.int .i64 x.sign) ∧ Below w.heap.size w w' := by
  obtain ⟨Ax, cx, rfl, hsx⟩ := hx.opened
  have HSx := Lib.hid hsx
  clear hsx hx
  have HE := Lib.hid x.sign_eq
  have hl : (dg x.sz).length = 0 ↔ x.sz = 0 := by rw [List.length_eq_zero_iff, dg_nil]
  cases ho : x.ov with
  | true =>
    have e : Hid (x.sign = 0) := by show _ = _; have := HE.out; rw [ho] at this; simpa using this
    clear hl
    go_enter Tryz.func29, Tryz.ntmps29
    go_wp2_with fail
    go_ret
    exact ⟨ret_int e.out.symm, below_by⟩
  | false =>
    by_cases h0 : x.sz = 0
    · have e : Hid (x.sign = 0) := by show _ = _; have := HE.out; simpa [h0] using this
      have hz : (dg x.sz).length = 0 := hl.2 h0
      clear h0 hl
      rw [hz] at HSx ⊢
      go_enter Tryz.func29, Tryz.ntmps29
      go_wp2_with fail
      go_ret
      exact ⟨ret_int e.out.symm, below_by⟩
    · have hz : ¬ (dg x.sz).length = 0 := fun h => h0 (hl.1 h)
      cases hn : x.ng with
      | true =>
        have e : Hid (x.sign = -1) := by show _ = _; have := HE.out; simpa [h0, ho, hn] using this
        clear h0 hl
        go_enter Tryz.func29, Tryz.ntmps29
        go_wp2_with fail
        go_ret
        exact ⟨ret_int e.out.symm, below_by⟩
      | false =>
        have e : Hid (x.sign = 1) := by show _ = _; have := HE.out; simpa [h0, ho, hn] using this
        clear h0 hl
        go_enter Tryz.func29, Tryz.ntmps29
        go_wp2_with fail
        go_ret
        exact ⟨ret_int e.out.symm, below_by⟩
theorem sub_x (a b : Value) (x y z : WI) (w : World) (hz : Hid (x.sub y = z)) (ha : BigIs w a x) (hb : BigIs w b y) :
    Calls Tryz.prog 27 #[a, b] w fun e w' => (∃ v, e = .returned v ∧ BigIs w' v z) ∧ Below w.heap.size w w' := by
  rw [← hz.out]; exact sub_r a b x y w ha hb
set_option maxRecDepth 100000 in
set_option maxHeartbeats 1000000 in
/-- det. -/
theorem det_r (a b d : Value) (x y z : WI) (w : World) (hx : BigIs w a x) (hy : BigIs w b y) (hz : BigIs w d z) :
    Calls Tryz.prog 126 #[a, b, d] w fun e w' => (∃ v, e = .returned v ∧ BigIs w' v ((x.mul z).sub (y.mul y))) ∧ Below w.heap.size w w' := by
  obtain ⟨Ax, cx, rfl, hsx⟩ := hx.opened
  have HSx := Lib.hid hsx
  clear hsx hx
  obtain ⟨Ay, cy, rfl, hsy⟩ := hy.opened
  have HSy := Lib.hid hsy
  clear hsy hy
  obtain ⟨Az, cz, rfl, hsz⟩ := hz.opened
  have HSz := Lib.hid hsz
  clear hsz hz
  obtain ⟨x2, hx2⟩ : ∃ t, t = (x.mul z).sub (y.mul y) := ⟨_, rfl⟩
  rw [← hx2]
  have HV : Hid ((x.mul z).sub (y.mul y) = x2) := hx2.symm
  clear hx2
  go_enter Tryz.func126, Tryz.ntmps126
  go_wp2_with fail
  have HB : Hid (Below w.heap.size w (((((w).alloc (Obj.cells #[.bool x.ng, .bool x.ov, .slice Ax (dg x.sz).length cx] 52)).alloc (Obj.cells #[.bool y.ng, .bool y.ov, .slice Ay (dg y.sz).length cy] 52)).alloc (Obj.cells #[.bool z.ng, .bool z.ov, .slice Az (dg z.sz).length cz] 52)).alloc (Obj.cells #[.bool false, .bool false, .slice none 0 0] 52)).drew) := below_by
  have qx0 := @inh_cell _ _ _ (show (((((w).alloc (Obj.cells #[.bool x.ng, .bool x.ov, .slice Ax (dg x.sz).length cx] 52)).alloc (Obj.cells #[.bool y.ng, .bool y.ov, .slice Ay (dg y.sz).length cy] 52)).alloc (Obj.cells #[.bool z.ng, .bool z.ov, .slice Az (dg z.sz).length cz] 52)).alloc (Obj.cells #[.bool false, .bool false, .slice none 0 0] 52)).cell? ⟨w.heap.size, 0, none⟩ = some (.bool x.ng) from (by go_simp))
  have qx1 := @inh_cell _ _ _ (show (((((w).alloc (Obj.cells #[.bool x.ng, .bool x.ov, .slice Ax (dg x.sz).length cx] 52)).alloc (Obj.cells #[.bool y.ng, .bool y.ov, .slice Ay (dg y.sz).length cy] 52)).alloc (Obj.cells #[.bool z.ng, .bool z.ov, .slice Az (dg z.sz).length cz] 52)).alloc (Obj.cells #[.bool false, .bool false, .slice none 0 0] 52)).cell? ⟨w.heap.size, 1, none⟩ = some (.bool x.ov) from (by go_simp))
  have qx2 := @inh_cell _ _ _ (show (((((w).alloc (Obj.cells #[.bool x.ng, .bool x.ov, .slice Ax (dg x.sz).length cx] 52)).alloc (Obj.cells #[.bool y.ng, .bool y.ov, .slice Ay (dg y.sz).length cy] 52)).alloc (Obj.cells #[.bool z.ng, .bool z.ov, .slice Az (dg z.sz).length cz] 52)).alloc (Obj.cells #[.bool false, .bool false, .slice none 0 0] 52)).cell? ⟨w.heap.size, 2, none⟩ = some (.slice Ax (dg x.sz).length cx) from (by go_simp))
  have qy0 := @inh_cell _ _ _ (show (((((w).alloc (Obj.cells #[.bool x.ng, .bool x.ov, .slice Ax (dg x.sz).length cx] 52)).alloc (Obj.cells #[.bool y.ng, .bool y.ov, .slice Ay (dg y.sz).length cy] 52)).alloc (Obj.cells #[.bool z.ng, .bool z.ov, .slice Az (dg z.sz).length cz] 52)).alloc (Obj.cells #[.bool false, .bool false, .slice none 0 0] 52)).cell? ⟨w.heap.size + 1, 0, none⟩ = some (.bool y.ng) from (by go_simp))
  have qy1 := @inh_cell _ _ _ (show (((((w).alloc (Obj.cells #[.bool x.ng, .bool x.ov, .slice Ax (dg x.sz).length cx] 52)).alloc (Obj.cells #[.bool y.ng, .bool y.ov, .slice Ay (dg y.sz).length cy] 52)).alloc (Obj.cells #[.bool z.ng, .bool z.ov, .slice Az (dg z.sz).length cz] 52)).alloc (Obj.cells #[.bool false, .bool false, .slice none 0 0] 52)).cell? ⟨w.heap.size + 1, 1, none⟩ = some (.bool y.ov) from (by go_simp))
  have qy2 := @inh_cell _ _ _ (show (((((w).alloc (Obj.cells #[.bool x.ng, .bool x.ov, .slice Ax (dg x.sz).length cx] 52)).alloc (Obj.cells #[.bool y.ng, .bool y.ov, .slice Ay (dg y.sz).length cy] 52)).alloc (Obj.cells #[.bool z.ng, .bool z.ov, .slice Az (dg z.sz).length cz] 52)).alloc (Obj.cells #[.bool false, .bool false, .slice none 0 0] 52)).cell? ⟨w.heap.size + 1, 2, none⟩ = some (.slice Ay (dg y.sz).length cy) from (by go_simp))
  have qz0 := @inh_cell _ _ _ (show (((((w).alloc (Obj.cells #[.bool x.ng, .bool x.ov, .slice Ax (dg x.sz).length cx] 52)).alloc (Obj.cells #[.bool y.ng, .bool y.ov, .slice Ay (dg y.sz).length cy] 52)).alloc (Obj.cells #[.bool z.ng, .bool z.ov, .slice Az (dg z.sz).length cz] 52)).alloc (Obj.cells #[.bool false, .bool false, .slice none 0 0] 52)).cell? ⟨w.heap.size + 1 + 1, 0, none⟩ = some (.bool z.ng) from (by go_simp))
  have qz1 := @inh_cell _ _ _ (show (((((w).alloc (Obj.cells #[.bool x.ng, .bool x.ov, .slice Ax (dg x.sz).length cx] 52)).alloc (Obj.cells #[.bool y.ng, .bool y.ov, .slice Ay (dg y.sz).length cy] 52)).alloc (Obj.cells #[.bool z.ng, .bool z.ov, .slice Az (dg z.sz).length cz] 52)).alloc (Obj.cells #[.bool false, .bool false, .slice none 0 0] 52)).cell? ⟨w.heap.size + 1 + 1, 1, none⟩ = some (.bool z.ov) from (by go_simp))
  have qz2 := @inh_cell _ _ _ (show (((((w).alloc (Obj.cells #[.bool x.ng, .bool x.ov, .slice Ax (dg x.sz).length cx] 52)).alloc (Obj.cells #[.bool y.ng, .bool y.ov, .slice Ay (dg y.sz).length cy] 52)).alloc (Obj.cells #[.bool z.ng, .bool z.ov, .slice Az (dg z.sz).length cz] 52)).alloc (Obj.cells #[.bool false, .bool false, .slice none 0 0] 52)).cell? ⟨w.heap.size + 1 + 1, 2, none⟩ = some (.slice Az (dg z.sz).length cz) from (by go_simp))
  refine wp_region_ghost' 7 (fun k => match k with | 2 => some (gBig (x.mul z)) | 5 => some (gBig (y.mul y)) | 6 => some (gBig x2) | _ => none) (fun k => match k with | 6 => [2, 5] | _ => []) (by kernel_rfl) (by kernel_rfl) ?_; refine ex_listH ?_; apply Exists.intro; refine ex_listH ?_; apply Exists.intro; refine ex_listH ⟨undef, ?_⟩; refine ex_listH ?_; apply Exists.intro; refine ex_listH ?_; apply Exists.intro; refine ex_listH ⟨undef, ?_⟩; refine ex_listH ⟨undef, ?_⟩; refine ⟨[], fun gg NN hN => ?_⟩; simp only [List.append_eq, List.cons_append, List.nil_append, List.take_succ_cons, List.take_zero, List.drop_succ_cons, List.drop_zero]; (repeat (refine lexH_quiet rfl ?_; go_big_quiet_step (first | exact rfl | (fail)); refine wpQuiet_nil ⟨?hd, ?_⟩; (case hd => (simp only [dstVh, Array.getD_eq_getD_getElem?, List.getElem?_toArray, List.getElem?_cons_zero, List.getElem?_cons_succ, Option.getD_some, List.getD_cons_zero, List.getD_cons_succ]; exact rfl)))); (refine lexH_ghost _ (by rfl) (by rfl) ?hex ?_; (case hex => (intro px; refine ghost_call (fn := 28) (by go_simp; rfl) ?_; exact mul_r _ _ _ _ _ (BigIs.mk (HSx.out.below (inh_low HB.out px))) (BigIs.mk (HSz.out.below (inh_low HB.out px))))); simp only [Act.put, List.setIfInBounds_toArray, List.set_cons_succ, List.set_cons_zero]); (repeat (refine lexH_quiet rfl ?_; go_big_quiet_step (first | exact rfl | (fail)); refine wpQuiet_nil ⟨?hd, ?_⟩; (case hd => (simp only [dstVh, Array.getD_eq_getD_getElem?, List.getElem?_toArray, List.getElem?_cons_zero, List.getElem?_cons_succ, Option.getD_some, List.getD_cons_zero, List.getD_cons_succ]; exact rfl)))); (refine lexH_ghost _ (by rfl) (by rfl) ?hex ?_; (case hex => (intro px; refine ghost_call (fn := 28) (by go_simp; rfl) ?_; exact mul_r _ _ _ _ _ (BigIs.mk (HSy.out.below (inh_low HB.out px))) (BigIs.mk (HSy.out.below (inh_low HB.out px))))); simp only [Act.put, List.setIfInBounds_toArray, List.set_cons_succ, List.set_cons_zero]); (refine lexH_ghost _ (by rfl) (by rfl) ?hex ?_; (case hex => (intro px; refine ghost_call (fn := 27) (by go_simp; rfl) ?_; exact sub_x _ _ _ _ _ _ HV (px.has 2 (hN 6 2 (by simp)) _ rfl) (px.has 5 (hN 6 5 (by simp)) _ rfl))); simp only [Act.put, List.setIfInBounds_toArray, List.set_cons_succ, List.set_cons_zero])
  refine lexH_nil ?_
  intro w1 hb1' hh
  have hb1 : Below (((((w).alloc (Obj.cells #[.bool x.ng, .bool x.ov, .slice Ax (dg x.sz).length cx] 52)).alloc (Obj.cells #[.bool y.ng, .bool y.ov, .slice Ay (dg y.sz).length cy] 52)).alloc (Obj.cells #[.bool z.ng, .bool z.ov, .slice Az (dg z.sz).length cz] 52)).alloc (Obj.cells #[.bool false, .bool false, .slice none 0 0] 52)).heap.size (((((w).alloc (Obj.cells #[.bool x.ng, .bool x.ov, .slice Ax (dg x.sz).length cx] 52)).alloc (Obj.cells #[.bool y.ng, .bool y.ov, .slice Ay (dg y.sz).length cy] 52)).alloc (Obj.cells #[.bool z.ng, .bool z.ov, .slice Az (dg z.sz).length cz] 52)).alloc (Obj.cells #[.bool false, .bool false, .slice none 0 0] 52)) w1 := hb1'
  obtain ⟨A2, cap2, e7, hs2⟩ := (show BigIs w1 (gg 6) x2 from hh 6 _ (by decide) rfl).opened
  have HS2 := Lib.hid hs2
  rw [e7]
  clear hb1' hh hs2 e7 qx0 qx1 qx2 qy0 qy1 qy2 qz0 qz1 qz2
  have z_w1 := hb1.size; (try simp at z_w1); obtain ⟨y_w1_0_0, c_w1_0_0, f_w1_0_0, r_w1_0_0, t_w1_0_0, p_w1_0_0⟩ := bq hb1 (w.heap.size); obtain ⟨y_w1_0_1, c_w1_0_1, f_w1_0_1, r_w1_0_1, t_w1_0_1, p_w1_0_1⟩ := bq hb1 (w.heap.size + 1); obtain ⟨y_w1_0_2, c_w1_0_2, f_w1_0_2, r_w1_0_2, t_w1_0_2, p_w1_0_2⟩ := bq hb1 (w.heap.size + 1 + 1); obtain ⟨y_w1_0_3, c_w1_0_3, f_w1_0_3, r_w1_0_3, t_w1_0_3, p_w1_0_3⟩ := bq hb1 (w.heap.size + 1 + 1 + 1)
  go_wp2_with fail
  refine bodyPost_row 3 #[.bool x2.ng, .bool x2.ov, .slice A2 (dg x2.sz).length cap2] rfl rfl rfl Tryz.underlying52 rfl (by kernel_rfl) (row_of_cells 2 _ rfl (by intro i hi; rcases i with _ | _ | _ | i; (go_simp); (go_simp); (go_simp); exact absurd hi (by omega))) ⟨⟨_, rfl, BigIs.mk (HS2.out.res (by go_simp) (by go_simp) (by go_simp) _ _ _)⟩, below_by⟩
end Go.Proofs.YtnoidlacjiafdaaGreat
namespace Go.Proofs.YtnoidlacjiafdaaGreat
set_option linter.unusedSimpArgs false
open Go.RowKit

theorem det_x (a b d : Value) (x y z t : WI) (w : World) (ht : Hid ((x.mul z).sub (y.mul y) = t)) (hx : BigIs w a x) (hy : BigIs w b y) (hz : BigIs w d z) :
    Calls Tryz.prog 126 #[a, b, d] w fun e w' => (∃ v, e = .returned v ∧ BigIs w' v t) ∧ Below w.heap.size w w' := by
  rw [← ht.out]; exact det_r a b d x y z w hx hy hz
set_option maxRecDepth 100000 in
set_option maxHeartbeats 1000000 in
/-- Det. -/
theorem matdet_r (a b d : Int) (ha : I64 a) (hb : I64 b) (hd : I64 d) (w : World) :
    Calls Tryz.prog 77 #[symV a b d] w fun e w' => (∃ v, e = .returned v ∧ BigIs w' v (WI.of (a * d - b * b))) ∧ Below w.heap.size w w' := by
  have E := of_both a b d ha.sm hb.sm hd.sm
  have K : Hid (I64 a ∧ I64 b ∧ I64 d) := ⟨ha, hb, hd⟩
  obtain ⟨x2, hx2⟩ : ∃ t, t = WI.of (a * d - b * b) := ⟨_, rfl⟩
  rw [← hx2] at E ⊢
  have HV := Lib.hid E
  clear ha hb hd hx2 E
  go_enter Tryz.func77, Tryz.ntmps77
  go_wp2_with fail
  have HB : Hid (Below w.heap.size w (((w).alloc (Obj.cells #[.int .i64 a, .int .i64 b, .int .i64 d] 25)).alloc (Obj.cells #[.bool false, .bool false, .slice none 0 0] 52)).drew) := below_by
  have qs0 := @inh_cell _ _ _ (show (((w).alloc (Obj.cells #[.int .i64 a, .int .i64 b, .int .i64 d] 25)).alloc (Obj.cells #[.bool false, .bool false, .slice none 0 0] 52)).cell? ⟨w.heap.size, 0, none⟩ = some (.int .i64 a) from (by go_simp))
  have qs1 := @inh_cell _ _ _ (show (((w).alloc (Obj.cells #[.int .i64 a, .int .i64 b, .int .i64 d] 25)).alloc (Obj.cells #[.bool false, .bool false, .slice none 0 0] 52)).cell? ⟨w.heap.size, 1, none⟩ = some (.int .i64 b) from (by go_simp))
  have qs2 := @inh_cell _ _ _ (show (((w).alloc (Obj.cells #[.int .i64 a, .int .i64 b, .int .i64 d] 25)).alloc (Obj.cells #[.bool false, .bool false, .slice none 0 0] 52)).cell? ⟨w.heap.size, 2, none⟩ = some (.int .i64 d) from (by go_simp))
  refine wp_region_ghost' 10 (fun k => match k with | 2 => some (gBig (WI.of a)) | 5 => some (gBig (WI.of b)) | 8 => some (gBig (WI.of d)) | 9 => some (gBig x2) | _ => none) (fun k => match k with | 9 => [2, 5, 8] | _ => []) (by kernel_rfl) (by kernel_rfl) ?_; refine ex_listH ?_; apply Exists.intro; refine ex_listH ?_; apply Exists.intro; refine ex_listH ⟨undef, ?_⟩; refine ex_listH ?_; apply Exists.intro; refine ex_listH ?_; apply Exists.intro; refine ex_listH ⟨undef, ?_⟩; refine ex_listH ?_; apply Exists.intro; refine ex_listH ?_; apply Exists.intro; refine ex_listH ⟨undef, ?_⟩; refine ex_listH ⟨undef, ?_⟩; refine ⟨[], fun gg NN hN => ?_⟩; simp only [List.append_eq, List.cons_append, List.nil_append, List.take_succ_cons, List.take_zero, List.drop_succ_cons, List.drop_zero]; (repeat (refine lexH_quiet rfl ?_; go_big_quiet_step (first | exact rfl | (fail)); refine wpQuiet_nil ⟨?hd, ?_⟩; (case hd => (simp only [dstVh, Array.getD_eq_getD_getElem?, List.getElem?_toArray, List.getElem?_cons_zero, List.getElem?_cons_succ, Option.getD_some, List.getD_cons_zero, List.getD_cons_succ]; exact rfl)))); (refine lexH_ghost _ (by rfl) (by rfl) ?hex ?_; (case hex => (intro px; refine ghost_call (fn := 40) (by go_simp; rfl) ?_; exact of_r _ K.out.1.1 K.out.1.2 _)); simp only [Act.put, List.setIfInBounds_toArray, List.set_cons_succ, List.set_cons_zero]); (repeat (refine lexH_quiet rfl ?_; go_big_quiet_step (first | exact rfl | (fail)); refine wpQuiet_nil ⟨?hd, ?_⟩; (case hd => (simp only [dstVh, Array.getD_eq_getD_getElem?, List.getElem?_toArray, List.getElem?_cons_zero, List.getElem?_cons_succ, Option.getD_some, List.getD_cons_zero, List.getD_cons_succ]; exact rfl)))); (refine lexH_ghost _ (by rfl) (by rfl) ?hex ?_; (case hex => (intro px; refine ghost_call (fn := 40) (by go_simp; rfl) ?_; exact of_r _ K.out.2.1.1 K.out.2.1.2 _)); simp only [Act.put, List.setIfInBounds_toArray, List.set_cons_succ, List.set_cons_zero]); (repeat (refine lexH_quiet rfl ?_; go_big_quiet_step (first | exact rfl | (fail)); refine wpQuiet_nil ⟨?hd, ?_⟩; (case hd => (simp only [dstVh, Array.getD_eq_getD_getElem?, List.getElem?_toArray, List.getElem?_cons_zero, List.getElem?_cons_succ, Option.getD_some, List.getD_cons_zero, List.getD_cons_succ]; exact rfl)))); (refine lexH_ghost _ (by rfl) (by rfl) ?hex ?_; (case hex => (intro px; refine ghost_call (fn := 40) (by go_simp; rfl) ?_; exact of_r _ K.out.2.2.1 K.out.2.2.2 _)); simp only [Act.put, List.setIfInBounds_toArray, List.set_cons_succ, List.set_cons_zero]); (refine lexH_ghost _ (by rfl) (by rfl) ?hex ?_; (case hex => (intro px; refine ghost_call (fn := 126) (by go_simp; rfl) ?_; exact det_x _ _ _ _ _ _ _ _ HV (px.has 2 (hN 9 2 (by simp)) _ rfl) (px.has 5 (hN 9 5 (by simp)) _ rfl) (px.has 8 (hN 9 8 (by simp)) _ rfl))); simp only [Act.put, List.setIfInBounds_toArray, List.set_cons_succ, List.set_cons_zero])
  refine lexH_nil ?_
  intro w1 hb1' hh
  have hb1 : Below (((w).alloc (Obj.cells #[.int .i64 a, .int .i64 b, .int .i64 d] 25)).alloc (Obj.cells #[.bool false, .bool false, .slice none 0 0] 52)).heap.size (((w).alloc (Obj.cells #[.int .i64 a, .int .i64 b, .int .i64 d] 25)).alloc (Obj.cells #[.bool false, .bool false, .slice none 0 0] 52)) w1 := hb1'
  obtain ⟨A2, cap2, e7, hs2⟩ := (show BigIs w1 (gg 9) x2 from hh 9 _ (by decide) rfl).opened
  have HS2 := Lib.hid hs2
  rw [e7]
  clear hb1' hh hs2 e7 qs0 qs1 qs2
  have z_w1 := hb1.size; (try simp at z_w1); obtain ⟨y_w1_0_0, c_w1_0_0, f_w1_0_0, r_w1_0_0, t_w1_0_0, p_w1_0_0⟩ := bq hb1 (w.heap.size); obtain ⟨y_w1_0_1, c_w1_0_1, f_w1_0_1, r_w1_0_1, t_w1_0_1, p_w1_0_1⟩ := bq hb1 (w.heap.size + 1)
  go_wp2_with fail
  refine bodyPost_row 3 #[.bool x2.ng, .bool x2.ov, .slice A2 (dg x2.sz).length cap2] rfl rfl rfl Tryz.underlying52 rfl (by kernel_rfl) (row_of_cells 2 _ rfl (by intro i hi; rcases i with _ | _ | _ | i; (go_simp); (go_simp); (go_simp); exact absurd hi (by omega))) ⟨⟨_, rfl, BigIs.mk (HS2.out.res (by go_simp) (by go_simp) (by go_simp) _ _ _)⟩, below_by⟩
/-- A block of one's own, made anew, at B or behind it. -/
def gCell (B : Nat) (cs : Array Value) (t : TypeId) : Ghost where
  holds := fun w v => ∃ g, v = .pointer (some ⟨g, 0, none⟩) ∧ B ≤ g ∧ Blk w g cs t
  stable := fun ⟨g, h1, h2, h3⟩ hb => ⟨g, h1, h2, h3.keep hb⟩
  own := fun v => match v with | .pointer (some ⟨g, _, _⟩) => some g | _ => none
  lt := fun ⟨g, h1, _, h2⟩ e => by subst h1; cases e; exact h2.lt
theorem ghost_alloc {P : Program} {w : World} {r : Result Next} {B : Nat} {cs : Array Value} {t : TypeId} (hB : B ≤ w.heap.size) (hr : r = .ok (.value (.pointer (some ⟨w.heap.size, 0, none⟩))) (w.alloc (.cells cs t))) : ghostUpon P (gCell B cs t) w r := by
  subst hr
  exact ⟨⟨_, rfl, hB, Blk.new _ _ _⟩, (Below.refl _ _).alloc (Nat.le_refl _) _, fun b e => by cases e; exact Nat.le_refl _⟩
theorem BigAt.zero {w : World} {g : Nat} (h : Blk w g #[.bool false, .bool false, .slice none 0 0] 52) : BigAt w g (WI.of 0) := by
  have h1 : (WI.of 0).sz = 0 := by unfold WI.sz; rw [WI.of_v (by simpa using lim_pos)]; rfl
  have h2 : (WI.of 0).ng = false := by unfold WI.ng; rw [WI.of_v (by simpa using lim_pos)]; rfl
  have h3 : (WI.of 0).ov = false := by unfold WI.ov; rw [WI.of_v (by simpa using lim_pos)]; rfl
  refine ⟨none, 0, ?_, ?_⟩
  · unfold bigC; rw [h1, h2, h3, dg_zero]; exact h
  · rw [h1, dg_zero]; exact Rd.nil _
end Go.Proofs.YtnoidlacjiafdaaGreat
namespace Go.Proofs.YtnoidlacjiafdaaGreat
set_option linter.unusedSimpArgs false
open Go.RowKit

section
set_option maxRecDepth 100000
end
end Go.Proofs.YtnoidlacjiafdaaGreat
