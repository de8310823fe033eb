/- The walks of the document's Sign, det, psd, Det, Psd, Quad, Holds. The walks of the document's Det, Psd, Quad, Holds. The walks of the document's MayMat, Adj, AddMat, Least. The walk of the document's Text. -/
import Derived.Test.YtilginoibhfeiaaRC
import Derived.Test.YtilginoibhfeiaaBM
import Derived.Test.YtilginoibhfeiaaRD
import Derived.Test.YtilginoibhfeiaaHX
namespace Go.Proofs.Ytilginoibhfeiaa
set_option linter.unusedSimpArgs false
open Go.RowKit

set_option maxRecDepth 100000 in
set_option maxHeartbeats 1000000 in
/-- Sign. -/
theorem sign_r (v : Value) (x : WI) (w : World) (hx : BigIs w v x) :
    Calls Try.prog 88 #[v] w fun e w' => e = .returned (.int .i64 x.sign) ∧ Below w.heap.size w w' := by
  obtain ⟨Ax, cx, rfl, hsx⟩ := hx.opened
  have HSx := Lib.hid hsx
  clear hsx hx
  have HE := Lib.hid x.sign_eq
  have hl : (dg x.sz).length = 0 ↔ x.sz = 0 := by rw [List.length_eq_zero_iff, dg_nil]
  cases ho : x.ov with
  | true =>
    have e : Hid (x.sign = 0) := by show _ = _; have := HE.out; rw [ho] at this; simpa using this
    clear hl
    go_enter Try.func88, Try.ntmps88
    go_wp2_with fail
    go_ret
    exact ⟨ret_int e.out.symm, (by repeat (first | exact Below.refl _ _ | exact Below_of_hid (by assumption) | refine Below.drew ?_ | refine below_drewN ?_ _ | refine Below_putRow ?_ (by first | omega | (simp; done) | (simp; omega) | fail) _ _ | refine Below.alloc ?_ (by first | omega | (simp; done) | (simp; omega) | fail) _ | refine Below.setCell ?_ (by first | omega | (simp; done) | (simp; omega) | fail) _ | refine Below.trans ?_ (Below.mono (by assumption) (by first | omega | (simp; done) | (simp; omega) | fail))))⟩
  | false =>
    by_cases h0 : x.sz = 0
    · have e : Hid (x.sign = 0) := by show _ = _; have := HE.out; simpa [h0] using this
      have hz : (dg x.sz).length = 0 := hl.2 h0
      clear h0 hl
      rw [hz] at HSx ⊢
      go_enter Try.func88, Try.ntmps88
      go_wp2_with fail
      go_ret
      exact ⟨ret_int e.out.symm, (by repeat (first | exact Below.refl _ _ | exact Below_of_hid (by assumption) | refine Below.drew ?_ | refine below_drewN ?_ _ | refine Below_putRow ?_ (by first | omega | (simp; done) | (simp; omega) | fail) _ _ | refine Below.alloc ?_ (by first | omega | (simp; done) | (simp; omega) | fail) _ | refine Below.setCell ?_ (by first | omega | (simp; done) | (simp; omega) | fail) _ | refine Below.trans ?_ (Below.mono (by assumption) (by first | omega | (simp; done) | (simp; omega) | fail))))⟩
    · have hz : ¬ (dg x.sz).length = 0 := fun h => h0 (hl.1 h)
      cases hn : x.ng with
      | true =>
        have e : Hid (x.sign = -1) := by show _ = _; have := HE.out; simpa [h0, ho, hn] using this
        clear h0 hl
        go_enter Try.func88, Try.ntmps88
        go_wp2_with fail
        go_ret
        exact ⟨ret_int e.out.symm, (by repeat (first | exact Below.refl _ _ | exact Below_of_hid (by assumption) | refine Below.drew ?_ | refine below_drewN ?_ _ | refine Below_putRow ?_ (by first | omega | (simp; done) | (simp; omega) | fail) _ _ | refine Below.alloc ?_ (by first | omega | (simp; done) | (simp; omega) | fail) _ | refine Below.setCell ?_ (by first | omega | (simp; done) | (simp; omega) | fail) _ | refine Below.trans ?_ (Below.mono (by assumption) (by first | omega | (simp; done) | (simp; omega) | fail))))⟩
      | false =>
        have e : Hid (x.sign = 1) := by show _ = _; have := HE.out; simpa [h0, ho, hn] using this
        clear h0 hl
        go_enter Try.func88, Try.ntmps88
        go_wp2_with fail
        go_ret
        exact ⟨ret_int e.out.symm, (by repeat (first | exact Below.refl _ _ | exact Below_of_hid (by assumption) | refine Below.drew ?_ | refine below_drewN ?_ _ | refine Below_putRow ?_ (by first | omega | (simp; done) | (simp; omega) | fail) _ _ | refine Below.alloc ?_ (by first | omega | (simp; done) | (simp; omega) | fail) _ | refine Below.setCell ?_ (by first | omega | (simp; done) | (simp; omega) | fail) _ | refine Below.trans ?_ (Below.mono (by assumption) (by first | omega | (simp; done) | (simp; omega) | fail))))⟩
theorem sub_x (a b : Value) (x y z : WI) (w : World) (hz : Hid (x.sub y = z)) (ha : BigIs w a x) (hb : BigIs w b y) :
    Calls Try.prog 97 #[a, b] w fun e w' => (∃ v, e = .returned v ∧ BigIs w' v z) ∧ Below w.heap.size w w' := by
  rw [← hz.out]; exact sub_r a b x y w ha hb
set_option maxRecDepth 100000 in
set_option maxHeartbeats 1000000 in
/-- det. -/
theorem det_r (a b d : Value) (x y z : WI) (w : World) (hx : BigIs w a x) (hy : BigIs w b y) (hz : BigIs w d z) :
    Calls Try.prog 95 #[a, b, d] w fun e w' => (∃ v, e = .returned v ∧ BigIs w' v ((x.mul z).sub (y.mul y))) ∧ Below w.heap.size w w' := by
  obtain ⟨Ax, cx, rfl, hsx⟩ := hx.opened
  have HSx := Lib.hid hsx
  clear hsx hx
  obtain ⟨Ay, cy, rfl, hsy⟩ := hy.opened
  have HSy := Lib.hid hsy
  clear hsy hy
  obtain ⟨Az, cz, rfl, hsz⟩ := hz.opened
  have HSz := Lib.hid hsz
  clear hsz hz
  obtain ⟨x2, hx2⟩ : ∃ t, t = (x.mul z).sub (y.mul y) := ⟨_, rfl⟩
  rw [← hx2]
  have HV : Hid ((x.mul z).sub (y.mul y) = x2) := hx2.symm
  clear hx2
  go_enter Try.func95, Try.ntmps95
  go_wp2_with fail
  have HB : Hid (Below w.heap.size w (((((w).alloc (Obj.cells #[.bool x.ng, .bool x.ov, .slice Ax (dg x.sz).length cx] 32)).alloc (Obj.cells #[.bool y.ng, .bool y.ov, .slice Ay (dg y.sz).length cy] 32)).alloc (Obj.cells #[.bool z.ng, .bool z.ov, .slice Az (dg z.sz).length cz] 32)).alloc (Obj.cells #[.bool false, .bool false, .slice none 0 0] 32)).drew) := (by repeat (first | exact Below.refl _ _ | exact Below_of_hid (by assumption) | refine Below.drew ?_ | refine below_drewN ?_ _ | refine Below_putRow ?_ (by first | omega | (simp; done) | (simp; omega) | fail) _ _ | refine Below.alloc ?_ (by first | omega | (simp; done) | (simp; omega) | fail) _ | refine Below.setCell ?_ (by first | omega | (simp; done) | (simp; omega) | fail) _ | refine Below.trans ?_ (Below.mono (by assumption) (by first | omega | (simp; done) | (simp; omega) | fail))))
  have qx0 := @inh_cell _ _ _ (show (((((w).alloc (Obj.cells #[.bool x.ng, .bool x.ov, .slice Ax (dg x.sz).length cx] 32)).alloc (Obj.cells #[.bool y.ng, .bool y.ov, .slice Ay (dg y.sz).length cy] 32)).alloc (Obj.cells #[.bool z.ng, .bool z.ov, .slice Az (dg z.sz).length cz] 32)).alloc (Obj.cells #[.bool false, .bool false, .slice none 0 0] 32)).cell? ⟨w.heap.size, 0, none⟩ = some (.bool x.ng) from (by go_simp))
  have qx1 := @inh_cell _ _ _ (show (((((w).alloc (Obj.cells #[.bool x.ng, .bool x.ov, .slice Ax (dg x.sz).length cx] 32)).alloc (Obj.cells #[.bool y.ng, .bool y.ov, .slice Ay (dg y.sz).length cy] 32)).alloc (Obj.cells #[.bool z.ng, .bool z.ov, .slice Az (dg z.sz).length cz] 32)).alloc (Obj.cells #[.bool false, .bool false, .slice none 0 0] 32)).cell? ⟨w.heap.size, 1, none⟩ = some (.bool x.ov) from (by go_simp))
  have qx2 := @inh_cell _ _ _ (show (((((w).alloc (Obj.cells #[.bool x.ng, .bool x.ov, .slice Ax (dg x.sz).length cx] 32)).alloc (Obj.cells #[.bool y.ng, .bool y.ov, .slice Ay (dg y.sz).length cy] 32)).alloc (Obj.cells #[.bool z.ng, .bool z.ov, .slice Az (dg z.sz).length cz] 32)).alloc (Obj.cells #[.bool false, .bool false, .slice none 0 0] 32)).cell? ⟨w.heap.size, 2, none⟩ = some (.slice Ax (dg x.sz).length cx) from (by go_simp))
  have qy0 := @inh_cell _ _ _ (show (((((w).alloc (Obj.cells #[.bool x.ng, .bool x.ov, .slice Ax (dg x.sz).length cx] 32)).alloc (Obj.cells #[.bool y.ng, .bool y.ov, .slice Ay (dg y.sz).length cy] 32)).alloc (Obj.cells #[.bool z.ng, .bool z.ov, .slice Az (dg z.sz).length cz] 32)).alloc (Obj.cells #[.bool false, .bool false, .slice none 0 0] 32)).cell? ⟨w.heap.size + 1, 0, none⟩ = some (.bool y.ng) from (by go_simp))
  have qy1 := @inh_cell _ _ _ (show (((((w).alloc (Obj.cells #[.bool x.ng, .bool x.ov, .slice Ax (dg x.sz).length cx] 32)).alloc (Obj.cells #[.bool y.ng, .bool y.ov, .slice Ay (dg y.sz).length cy] 32)).alloc (Obj.cells #[.bool z.ng, .bool z.ov, .slice Az (dg z.sz).length cz] 32)).alloc (Obj.cells #[.bool false, .bool false, .slice none 0 0] 32)).cell? ⟨w.heap.size + 1, 1, none⟩ = some (.bool y.ov) from (by go_simp))
  have qy2 := @inh_cell _ _ _ (show (((((w).alloc (Obj.cells #[.bool x.ng, .bool x.ov, .slice Ax (dg x.sz).length cx] 32)).alloc (Obj.cells #[.bool y.ng, .bool y.ov, .slice Ay (dg y.sz).length cy] 32)).alloc (Obj.cells #[.bool z.ng, .bool z.ov, .slice Az (dg z.sz).length cz] 32)).alloc (Obj.cells #[.bool false, .bool false, .slice none 0 0] 32)).cell? ⟨w.heap.size + 1, 2, none⟩ = some (.slice Ay (dg y.sz).length cy) from (by go_simp))
  have qz0 := @inh_cell _ _ _ (show (((((w).alloc (Obj.cells #[.bool x.ng, .bool x.ov, .slice Ax (dg x.sz).length cx] 32)).alloc (Obj.cells #[.bool y.ng, .bool y.ov, .slice Ay (dg y.sz).length cy] 32)).alloc (Obj.cells #[.bool z.ng, .bool z.ov, .slice Az (dg z.sz).length cz] 32)).alloc (Obj.cells #[.bool false, .bool false, .slice none 0 0] 32)).cell? ⟨w.heap.size + 1 + 1, 0, none⟩ = some (.bool z.ng) from (by go_simp))
  have qz1 := @inh_cell _ _ _ (show (((((w).alloc (Obj.cells #[.bool x.ng, .bool x.ov, .slice Ax (dg x.sz).length cx] 32)).alloc (Obj.cells #[.bool y.ng, .bool y.ov, .slice Ay (dg y.sz).length cy] 32)).alloc (Obj.cells #[.bool z.ng, .bool z.ov, .slice Az (dg z.sz).length cz] 32)).alloc (Obj.cells #[.bool false, .bool false, .slice none 0 0] 32)).cell? ⟨w.heap.size + 1 + 1, 1, none⟩ = some (.bool z.ov) from (by go_simp))
  have qz2 := @inh_cell _ _ _ (show (((((w).alloc (Obj.cells #[.bool x.ng, .bool x.ov, .slice Ax (dg x.sz).length cx] 32)).alloc (Obj.cells #[.bool y.ng, .bool y.ov, .slice Ay (dg y.sz).length cy] 32)).alloc (Obj.cells #[.bool z.ng, .bool z.ov, .slice Az (dg z.sz).length cz] 32)).alloc (Obj.cells #[.bool false, .bool false, .slice none 0 0] 32)).cell? ⟨w.heap.size + 1 + 1, 2, none⟩ = some (.slice Az (dg z.sz).length cz) from (by go_simp))
  refine wp_region_ghost' 7 (fun k => match k with | 2 => some (gBig (x.mul z)) | 5 => some (gBig (y.mul y)) | 6 => some (gBig x2) | _ => none) (fun k => match k with | 6 => [2, 5] | _ => []) (by kernel_rfl) (by kernel_rfl) ?_; refine ex_listH ?_; apply Exists.intro; refine ex_listH ?_; apply Exists.intro; refine ex_listH ⟨undef, ?_⟩; refine ex_listH ?_; apply Exists.intro; refine ex_listH ?_; apply Exists.intro; refine ex_listH ⟨undef, ?_⟩; refine ex_listH ⟨undef, ?_⟩; refine ⟨[], fun gg NN hN => ?_⟩; simp only [List.append_eq, List.cons_append, List.nil_append, List.take_succ_cons, List.take_zero, List.drop_succ_cons, List.drop_zero]; (refine lexH_quiet rfl ?_; go_big_quiet_step (first | exact rfl | (fail)); refine wpQuiet_nil ⟨?hd, ?_⟩; (case hd => (simp only [dstVh, Array.getD_eq_getD_getElem?, List.getElem?_toArray, List.getElem?_cons_zero, List.getElem?_cons_succ, Option.getD_some, List.getD_cons_zero, List.getD_cons_succ]; exact rfl))); (refine lexH_quiet rfl ?_; go_big_quiet_step (first | exact rfl | (fail)); refine wpQuiet_nil ⟨?hd, ?_⟩; (case hd => (simp only [dstVh, Array.getD_eq_getD_getElem?, List.getElem?_toArray, List.getElem?_cons_zero, List.getElem?_cons_succ, Option.getD_some, List.getD_cons_zero, List.getD_cons_succ]; exact rfl))); (refine lexH_ghost _ (by rfl) (by rfl) ?hex ?_; (case hex => (intro px; refine ghost_call (fn := 34) (by go_simp; rfl) ?_; exact mul_r _ _ _ _ _ (BigIs.mk (HSx.out.below (inh_low HB.out px))) (BigIs.mk (HSz.out.below (inh_low HB.out px))))); simp only [Act.put, List.setIfInBounds_toArray, List.set_cons_succ, List.set_cons_zero]); (refine lexH_quiet rfl ?_; go_big_quiet_step (first | exact rfl | (fail)); refine wpQuiet_nil ⟨?hd, ?_⟩; (case hd => (simp only [dstVh, Array.getD_eq_getD_getElem?, List.getElem?_toArray, List.getElem?_cons_zero, List.getElem?_cons_succ, Option.getD_some, List.getD_cons_zero, List.getD_cons_succ]; exact rfl))); (refine lexH_quiet rfl ?_; go_big_quiet_step (first | exact rfl | (fail)); refine wpQuiet_nil ⟨?hd, ?_⟩; (case hd => (simp only [dstVh, Array.getD_eq_getD_getElem?, List.getElem?_toArray, List.getElem?_cons_zero, List.getElem?_cons_succ, Option.getD_some, List.getD_cons_zero, List.getD_cons_succ]; exact rfl))); (refine lexH_ghost _ (by rfl) (by rfl) ?hex ?_; (case hex => (intro px; refine ghost_call (fn := 34) (by go_simp; rfl) ?_; exact mul_r _ _ _ _ _ (BigIs.mk (HSy.out.below (inh_low HB.out px))) (BigIs.mk (HSy.out.below (inh_low HB.out px))))); simp only [Act.put, List.setIfInBounds_toArray, List.set_cons_succ, List.set_cons_zero]); (refine lexH_ghost _ (by rfl) (by rfl) ?hex ?_; (case hex => (intro px; refine ghost_call (fn := 97) (by go_simp; rfl) ?_; exact sub_x _ _ _ _ _ _ HV (px.has 2 (hN 6 2 (by simp)) _ rfl) (px.has 5 (hN 6 5 (by simp)) _ rfl))); simp only [Act.put, List.setIfInBounds_toArray, List.set_cons_succ, List.set_cons_zero])
  refine lexH_nil ?_
  intro w1 hb1' hh
  have hb1 : Below (((((w).alloc (Obj.cells #[.bool x.ng, .bool x.ov, .slice Ax (dg x.sz).length cx] 32)).alloc (Obj.cells #[.bool y.ng, .bool y.ov, .slice Ay (dg y.sz).length cy] 32)).alloc (Obj.cells #[.bool z.ng, .bool z.ov, .slice Az (dg z.sz).length cz] 32)).alloc (Obj.cells #[.bool false, .bool false, .slice none 0 0] 32)).heap.size (((((w).alloc (Obj.cells #[.bool x.ng, .bool x.ov, .slice Ax (dg x.sz).length cx] 32)).alloc (Obj.cells #[.bool y.ng, .bool y.ov, .slice Ay (dg y.sz).length cy] 32)).alloc (Obj.cells #[.bool z.ng, .bool z.ov, .slice Az (dg z.sz).length cz] 32)).alloc (Obj.cells #[.bool false, .bool false, .slice none 0 0] 32)) w1 := hb1'
  obtain ⟨A2, cap2, e7, hs2⟩ := (show BigIs w1 (gg 6) x2 from hh 6 _ (by decide) rfl).opened
  have HS2 := Lib.hid hs2
  rw [e7]
  clear hb1' hh hs2 e7 qx0 qx1 qx2 qy0 qy1 qy2 qz0 qz1 qz2
  have z_w1 := hb1.size; (try simp at z_w1); obtain ⟨y_w1_0_0, c_w1_0_0, f_w1_0_0, r_w1_0_0, t_w1_0_0, p_w1_0_0⟩ := bk hb1 (w.heap.size) (by first | omega | (simp; done) | (simp; omega) | fail); obtain ⟨y_w1_0_1, c_w1_0_1, f_w1_0_1, r_w1_0_1, t_w1_0_1, p_w1_0_1⟩ := bk hb1 (w.heap.size + 1) (by first | omega | (simp; done) | (simp; omega) | fail); obtain ⟨y_w1_0_2, c_w1_0_2, f_w1_0_2, r_w1_0_2, t_w1_0_2, p_w1_0_2⟩ := bk hb1 (w.heap.size + 1 + 1) (by first | omega | (simp; done) | (simp; omega) | fail); obtain ⟨y_w1_0_3, c_w1_0_3, f_w1_0_3, r_w1_0_3, t_w1_0_3, p_w1_0_3⟩ := bk hb1 (w.heap.size + 1 + 1 + 1) (by first | omega | (simp; done) | (simp; omega) | fail)
  go_wp2_with fail
  refine bodyPost_row 3 #[.bool x2.ng, .bool x2.ov, .slice A2 (dg x2.sz).length cap2] rfl rfl rfl Try.underlying32 rfl (by kernel_rfl) (row_of_cells 2 _ rfl (by intro i hi; rcases i with _ | _ | _ | i; (go_simp); (go_simp); (go_simp); exact absurd hi (by omega))) ⟨⟨_, rfl, BigIs.mk (HS2.out.res (by go_simp) (by go_simp) (by go_simp) _ _ _)⟩, (by repeat (first | exact Below.refl _ _ | exact Below_of_hid (by assumption) | refine Below.drew ?_ | refine below_drewN ?_ _ | refine Below_putRow ?_ (by first | omega | (simp; done) | (simp; omega) | fail) _ _ | refine Below.alloc ?_ (by first | omega | (simp; done) | (simp; omega) | fail) _ | refine Below.setCell ?_ (by first | omega | (simp; done) | (simp; omega) | fail) _ | refine Below.trans ?_ (Below.mono (by assumption) (by first | omega | (simp; done) | (simp; omega) | fail))))⟩
end Go.Proofs.Ytilginoibhfeiaa
namespace Go.Proofs.Ytilginoibhfeiaa
set_option linter.unusedSimpArgs false
open Go.RowKit

theorem det_x (a b d : Value) (x y z t : WI) (w : World) (ht : Hid ((x.mul z).sub (y.mul y) = t)) (hx : BigIs w a x) (hy : BigIs w b y) (hz : BigIs w d z) :
    Calls Try.prog 95 #[a, b, d] w fun e w' => (∃ v, e = .returned v ∧ BigIs w' v t) ∧ Below w.heap.size w w' := by
  rw [← ht.out]; exact det_r a b d x y z w hx hy hz
set_option maxRecDepth 100000 in
set_option maxHeartbeats 1000000 in
/-- Det. -/
theorem matdet_r (a b d : Int) (ha : I64 a) (hb : I64 b) (hd : I64 d) (w : World) :
    Calls Try.prog 89 #[symV a b d] w fun e w' => (∃ v, e = .returned v ∧ BigIs w' v (WI.of (a * d - b * b))) ∧ Below w.heap.size w w' := by
  have E := of_both a b d ha.sm hb.sm hd.sm
  have K : Hid (I64 a ∧ I64 b ∧ I64 d) := ⟨ha, hb, hd⟩
  obtain ⟨x2, hx2⟩ : ∃ t, t = WI.of (a * d - b * b) := ⟨_, rfl⟩
  rw [← hx2] at E ⊢
  have HV := Lib.hid E
  clear ha hb hd hx2 E
  go_enter Try.func89, Try.ntmps89
  go_wp2_with fail
  have HB : Hid (Below w.heap.size w (((w).alloc (Obj.cells #[.int .i64 a, .int .i64 b, .int .i64 d] 52)).alloc (Obj.cells #[.bool false, .bool false, .slice none 0 0] 32)).drew) := (by repeat (first | exact Below.refl _ _ | exact Below_of_hid (by assumption) | refine Below.drew ?_ | refine below_drewN ?_ _ | refine Below_putRow ?_ (by first | omega | (simp; done) | (simp; omega) | fail) _ _ | refine Below.alloc ?_ (by first | omega | (simp; done) | (simp; omega) | fail) _ | refine Below.setCell ?_ (by first | omega | (simp; done) | (simp; omega) | fail) _ | refine Below.trans ?_ (Below.mono (by assumption) (by first | omega | (simp; done) | (simp; omega) | fail))))
  have qs0 := @inh_cell _ _ _ (show (((w).alloc (Obj.cells #[.int .i64 a, .int .i64 b, .int .i64 d] 52)).alloc (Obj.cells #[.bool false, .bool false, .slice none 0 0] 32)).cell? ⟨w.heap.size, 0, none⟩ = some (.int .i64 a) from (by go_simp))
  have qs1 := @inh_cell _ _ _ (show (((w).alloc (Obj.cells #[.int .i64 a, .int .i64 b, .int .i64 d] 52)).alloc (Obj.cells #[.bool false, .bool false, .slice none 0 0] 32)).cell? ⟨w.heap.size, 1, none⟩ = some (.int .i64 b) from (by go_simp))
  have qs2 := @inh_cell _ _ _ (show (((w).alloc (Obj.cells #[.int .i64 a, .int .i64 b, .int .i64 d] 52)).alloc (Obj.cells #[.bool false, .bool false, .slice none 0 0] 32)).cell? ⟨w.heap.size, 2, none⟩ = some (.int .i64 d) from (by go_simp))
  refine wp_region_ghost' 10 (fun k => match k with | 2 => some (gBig (WI.of a)) | 5 => some (gBig (WI.of b)) | 8 => some (gBig (WI.of d)) | 9 => some (gBig x2) | _ => none) (fun k => match k with | 9 => [2, 5, 8] | _ => []) (by kernel_rfl) (by kernel_rfl) ?_; refine ex_listH ?_; apply Exists.intro; refine ex_listH ?_; apply Exists.intro; refine ex_listH ⟨undef, ?_⟩; refine ex_listH ?_; apply Exists.intro; refine ex_listH ?_; apply Exists.intro; refine ex_listH ⟨undef, ?_⟩; refine ex_listH ?_; apply Exists.intro; refine ex_listH ?_; apply Exists.intro; refine ex_listH ⟨undef, ?_⟩; refine ex_listH ⟨undef, ?_⟩; refine ⟨[], fun gg NN hN => ?_⟩; simp only [List.append_eq, List.cons_append, List.nil_append, List.take_succ_cons, List.take_zero, List.drop_succ_cons, List.drop_zero]; (refine lexH_quiet rfl ?_; go_big_quiet_step (first | exact rfl | (fail)); refine wpQuiet_nil ⟨?hd, ?_⟩; (case hd => (simp only [dstVh, Array.getD_eq_getD_getElem?, List.getElem?_toArray, List.getElem?_cons_zero, List.getElem?_cons_succ, Option.getD_some, List.getD_cons_zero, List.getD_cons_succ]; exact rfl))); (refine lexH_quiet rfl ?_; go_big_quiet_step (first | exact rfl | (fail)); refine wpQuiet_nil ⟨?hd, ?_⟩; (case hd => (simp only [dstVh, Array.getD_eq_getD_getElem?, List.getElem?_toArray, List.getElem?_cons_zero, List.getElem?_cons_succ, Option.getD_some, List.getD_cons_zero, List.getD_cons_succ]; exact rfl))); (refine lexH_ghost _ (by rfl) (by rfl) ?hex ?_; (case hex => (intro px; refine ghost_call (fn := 30) (by go_simp; rfl) ?_; exact of_r _ K.out.1.1 K.out.1.2 _)); simp only [Act.put, List.setIfInBounds_toArray, List.set_cons_succ, List.set_cons_zero]); (refine lexH_quiet rfl ?_; go_big_quiet_step (first | exact rfl | (fail)); refine wpQuiet_nil ⟨?hd, ?_⟩; (case hd => (simp only [dstVh, Array.getD_eq_getD_getElem?, List.getElem?_toArray, List.getElem?_cons_zero, List.getElem?_cons_succ, Option.getD_some, List.getD_cons_zero, List.getD_cons_succ]; exact rfl))); (refine lexH_quiet rfl ?_; go_big_quiet_step (first | exact rfl | (fail)); refine wpQuiet_nil ⟨?hd, ?_⟩; (case hd => (simp only [dstVh, Array.getD_eq_getD_getElem?, List.getElem?_toArray, List.getElem?_cons_zero, List.getElem?_cons_succ, Option.getD_some, List.getD_cons_zero, List.getD_cons_succ]; exact rfl))); (refine lexH_ghost _ (by rfl) (by rfl) ?hex ?_; (case hex => (intro px; refine ghost_call (fn := 30) (by go_simp; rfl) ?_; exact of_r _ K.out.2.1.1 K.out.2.1.2 _)); simp only [Act.put, List.setIfInBounds_toArray, List.set_cons_succ, List.set_cons_zero]); (refine lexH_quiet rfl ?_; go_big_quiet_step (first | exact rfl | (fail)); refine wpQuiet_nil ⟨?hd, ?_⟩; (case hd => (simp only [dstVh, Array.getD_eq_getD_getElem?, List.getElem?_toArray, List.getElem?_cons_zero, List.getElem?_cons_succ, Option.getD_some, List.getD_cons_zero, List.getD_cons_succ]; exact rfl))); (refine lexH_quiet rfl ?_; go_big_quiet_step (first | exact rfl | (fail)); refine wpQuiet_nil ⟨?hd, ?_⟩; (case hd => (simp only [dstVh, Array.getD_eq_getD_getElem?, List.getElem?_toArray, List.getElem?_cons_zero, List.getElem?_cons_succ, Option.getD_some, List.getD_cons_zero, List.getD_cons_succ]; exact rfl))); (refine lexH_ghost _ (by rfl) (by rfl) ?hex ?_; (case hex => (intro px; refine ghost_call (fn := 30) (by go_simp; rfl) ?_; exact of_r _ K.out.2.2.1 K.out.2.2.2 _)); simp only [Act.put, List.setIfInBounds_toArray, List.set_cons_succ, List.set_cons_zero]); (refine lexH_ghost _ (by rfl) (by rfl) ?hex ?_; (case hex => (intro px; refine ghost_call (fn := 95) (by go_simp; rfl) ?_; exact det_x _ _ _ _ _ _ _ _ HV (px.has 2 (hN 9 2 (by simp)) _ rfl) (px.has 5 (hN 9 5 (by simp)) _ rfl) (px.has 8 (hN 9 8 (by simp)) _ rfl))); simp only [Act.put, List.setIfInBounds_toArray, List.set_cons_succ, List.set_cons_zero])
  refine lexH_nil ?_
  intro w1 hb1' hh
  have hb1 : Below (((w).alloc (Obj.cells #[.int .i64 a, .int .i64 b, .int .i64 d] 52)).alloc (Obj.cells #[.bool false, .bool false, .slice none 0 0] 32)).heap.size (((w).alloc (Obj.cells #[.int .i64 a, .int .i64 b, .int .i64 d] 52)).alloc (Obj.cells #[.bool false, .bool false, .slice none 0 0] 32)) w1 := hb1'
  obtain ⟨A2, cap2, e7, hs2⟩ := (show BigIs w1 (gg 9) x2 from hh 9 _ (by decide) rfl).opened
  have HS2 := Lib.hid hs2
  rw [e7]
  clear hb1' hh hs2 e7 qs0 qs1 qs2
  have z_w1 := hb1.size; (try simp at z_w1); obtain ⟨y_w1_0_0, c_w1_0_0, f_w1_0_0, r_w1_0_0, t_w1_0_0, p_w1_0_0⟩ := bk hb1 (w.heap.size) (by first | omega | (simp; done) | (simp; omega) | fail); obtain ⟨y_w1_0_1, c_w1_0_1, f_w1_0_1, r_w1_0_1, t_w1_0_1, p_w1_0_1⟩ := bk hb1 (w.heap.size + 1) (by first | omega | (simp; done) | (simp; omega) | fail)
  go_wp2_with fail
  refine bodyPost_row 3 #[.bool x2.ng, .bool x2.ov, .slice A2 (dg x2.sz).length cap2] rfl rfl rfl Try.underlying32 rfl (by kernel_rfl) (row_of_cells 2 _ rfl (by intro i hi; rcases i with _ | _ | _ | i; (go_simp); (go_simp); (go_simp); exact absurd hi (by omega))) ⟨⟨_, rfl, BigIs.mk (HS2.out.res (by go_simp) (by go_simp) (by go_simp) _ _ _)⟩, (by repeat (first | exact Below.refl _ _ | exact Below_of_hid (by assumption) | refine Below.drew ?_ | refine below_drewN ?_ _ | refine Below_putRow ?_ (by first | omega | (simp; done) | (simp; omega) | fail) _ _ | refine Below.alloc ?_ (by first | omega | (simp; done) | (simp; omega) | fail) _ | refine Below.setCell ?_ (by first | omega | (simp; done) | (simp; omega) | fail) _ | refine Below.trans ?_ (Below.mono (by assumption) (by first | omega | (simp; done) | (simp; omega) | fail))))⟩
/-- A block of one's own, made anew, at B or behind it. -/
def gCell (B : Nat) (cs : Array Value) (t : TypeId) : Ghost where
  holds := fun w v => ∃ g, v = .pointer (some ⟨g, 0, none⟩) ∧ B ≤ g ∧ Blk w g cs t
  stable := fun ⟨g, h1, h2, h3⟩ hb => ⟨g, h1, h2, h3.keep hb⟩
  own := fun v => match v with | .pointer (some ⟨g, _, _⟩) => some g | _ => none
  lt := fun ⟨g, h1, _, h2⟩ e => by subst h1; cases e; exact h2.lt
theorem ghost_alloc {P : Program} {w : World} {r : Result Next} {B : Nat} {cs : Array Value} {t : TypeId} (hB : B ≤ w.heap.size) (hr : r = .ok (.value (.pointer (some ⟨w.heap.size, 0, none⟩))) (w.alloc (.cells cs t))) : ghostUpon P (gCell B cs t) w r := by
  subst hr
  exact ⟨⟨_, rfl, hB, Blk.new _ _ _⟩, (Below.refl _ _).alloc (Nat.le_refl _) _, fun b e => by cases e; exact Nat.le_refl _⟩
theorem BigAt.zero {w : World} {g : Nat} (h : Blk w g #[.bool false, .bool false, .slice none 0 0] 32) : BigAt w g (WI.of 0) := by
  have h1 : (WI.of 0).sz = 0 := by unfold WI.sz; rw [WI.of_v (by simpa using lim_pos)]; rfl
  have h2 : (WI.of 0).ng = false := by unfold WI.ng; rw [WI.of_v (by simpa using lim_pos)]; rfl
  have h3 : (WI.of 0).ov = false := by unfold WI.ov; rw [WI.of_v (by simpa using lim_pos)]; rfl
  refine ⟨none, 0, ?_, ?_⟩
  · unfold bigC; rw [h1, h2, h3, dg_zero]; exact h
  · rw [h1, dg_zero]; exact Rd.nil _
theorem BigAt.put_other {w : World} {g g' : Nat} {x y : WI} (h : BigAt w g x) (h' : BigAt w g' y) (hne : g ≠ g') (v0 v1 v2 : Value) : BigAt (((w.setCell ⟨g', 0, none⟩ v0).setCell ⟨g', 1, none⟩ v1).setCell ⟨g', 2, none⟩ v2) g x := by
  obtain ⟨A, c, h1, h2⟩ := h
  obtain ⟨A', c', h3, -⟩ := h'
  exact ⟨A, c, ((h1.setCell_other (by simpa using hne) _).setCell_other (by simpa using hne) _).setCell_other (by simpa using hne) _, h2.set3 (h3.cell (i := 0) rfl) (h3.cell (i := 1) rfl) (h3.cell (i := 2) rfl) _ _ _⟩
theorem quad_parts (a b d x y : Int) (ha : I64 a) (hb : I64 b) (hd : I64 d) (hx : I64 x) (hy : I64 y) :
    (WI.of x).mul (WI.of x) = WI.of (x * x) ∧ (WI.of a).mul (WI.of (x * x)) = WI.of (a * (x * x)) ∧ (WI.of (x * y)).add (WI.of (x * y)) = WI.of (x * y + x * y) ∧ (WI.of b).mul (WI.of (x * y + x * y)) = WI.of (b * (x * y + x * y)) ∧
    (WI.of (a * (x * x))).add (WI.of (b * (x * y + x * y))) = WI.of (a * (x * x) + b * (x * y + x * y)) ∧ (WI.of y).mul (WI.of y) = WI.of (y * y) ∧ (WI.of d).mul (WI.of (y * y)) = WI.of (d * (y * y)) ∧
    (WI.of (a * (x * x) + b * (x * y + x * y))).add (WI.of (d * (y * y))) = WI.of (a * (x * x) + d * (y * y) + (b * (x * y) + b * (x * y))) := by
  have A := Sm.of64 ha.1 ha.2
  have B := Sm.of64 hb.1 hb.2
  have D := Sm.of64 hd.1 hd.2
  have X := Sm.of64 hx.1 hx.2
  have Y := Sm.of64 hy.1 hy.2
  have XX := X.mul X
  have YY := Y.mul Y
  have XY := X.mul Y
  have AXX := A.mul XX
  have S := XY.add XY
  have BS := B.mul S
  have DYY := D.mul YY
  have AB := (AXX.mono (k := 190) (by decide)).add (BS.mono (k := 190) (by decide))
  refine ⟨WI.of_mul (X.lim (by decide)) (X.lim (by decide)), WI.of_mul (A.lim (by decide)) (XX.lim (by decide)), WI.of_add (XY.lim (by decide)) (XY.lim (by decide)), WI.of_mul (B.lim (by decide)) (S.lim (by decide)), WI.of_add (AXX.lim (by decide)) (BS.lim (by decide)), WI.of_mul (Y.lim (by decide)) (Y.lim (by decide)), WI.of_mul (D.lim (by decide)) (YY.lim (by decide)), ?_⟩
  rw [WI.of_add (AB.lim (by decide)) (DYY.lim (by decide))]
  congr 1
  grind
end Go.Proofs.Ytilginoibhfeiaa
namespace Go.Proofs.Ytilginoibhfeiaa
set_option linter.unusedSimpArgs false
open Go.RowKit

theorem in3 (n : Int) : (n < -2305843009213693952 ∧ inB n = false) ∨ ((¬ n < -2305843009213693952 ∧ 2305843009213693952 < n) ∧ inB n = false) ∨ ((¬ n < -2305843009213693952 ∧ ¬ 2305843009213693952 < n) ∧ inB n = true) := by
  unfold inB
  by_cases h1 : n < -2305843009213693952
  · left; exact ⟨h1, by simp; omega⟩
  · by_cases h2 : 2305843009213693952 < n
    · right; left; exact ⟨⟨h1, h2⟩, by simp; omega⟩
    · right; right; exact ⟨⟨h1, h2⟩, by simp; omega⟩
end Go.Proofs.Ytilginoibhfeiaa
namespace Go.Proofs.Ytilginoibhfeiaa
set_option linter.unusedSimpArgs false
open Go.RowKit

@[go_sem ↓] theorem slice_dg32 (d : Nat) (hd : d < 16) (w : World) :
    (Instr.slice 9 (.string ⟨#[48, 49, 50, 51, 52, 53, 54, 55, 56, 57, 97, 98, 99, 100, 101, 102]⟩) (some (.int .u32 (d : Int))) (some (.int .u32 ((d : Int) + 1))) none).run Try.prog w = .ok (str [hxd d]) w := by
  have key : ∀ d : Nat, d < 16 → (ByteArray.mk #[48, 49, 50, 51, 52, 53, 54, 55, 56, 57, 97, 98, 99, 100, 101, 102]).extract d (d + 1) = ⟨[hxd d].toArray⟩ := by decide
  have := key d hd
  rw [run_slice_string _ _ _ _ _ _ _ Try.underlying9 (by omega) (by omega) (by show (d : Int) + 1 ≤ 16; omega)]
  rw [show ((d : Int) + 1).toNat = d + 1 by omega, Int.toNat_natCast, this]
  rfl
theorem nib32 (N i : Nat) : N / 4294967296 ^ (i / 8) % 4294967296 / 2 ^ (4 * (i % 8)) % 16 = N / 16 ^ i % 16 := by
  have e1 : (4294967296 : Nat) ^ (i / 8) = 16 ^ (8 * (i / 8)) := by rw [show (4294967296 : Nat) = 16 ^ 8 from rfl, ← Nat.pow_mul]
  have e2 : (2 : Nat) ^ (4 * (i % 8)) = 16 ^ (i % 8) := by rw [Nat.pow_mul]
  have e3 : N / 16 ^ i = N / 16 ^ (8 * (i / 8)) / 16 ^ (i % 8) := by rw [Nat.div_div_eq_div_mul, ← Nat.pow_add, Nat.div_add_mod]
  rw [e1, e2, e3]
  generalize N / 16 ^ (8 * (i / 8)) = K
  have e4 : (4294967296 : Nat) = 16 ^ (i % 8) * (16 * 16 ^ (7 - i % 8)) := by
    rw [show (4294967296 : Nat) = 16 ^ (i % 8 + (1 + (7 - i % 8))) from by rw [show i % 8 + (1 + (7 - i % 8)) = 8 by omega], Nat.pow_add, Nat.pow_add, Nat.pow_one]
  rw [e4, Nat.mod_mul_right_div_self, Nat.mod_mul_right_mod]
theorem and15_u32 (v : Nat) (h : v < 4294967296) : bits .and .u32 (v : Int) 15 = ((v % 16 : Nat) : Int) := and_low_u32 v 4 h (by decide)
theorem hx_gain (N i d : Nat) (hd : N / 16 ^ i % 16 = d) (h : N / 16 ^ (i + 1) ≠ 0 ∨ d ≠ 0) : hx (N / 16 ^ (i + 1)) ++ [hxd d] = hx (N / 16 ^ i) := by
  have e : N / 16 ^ (i + 1) = N / 16 ^ i / 16 := by rw [Nat.div_div_eq_div_mul, Nat.pow_succ]
  rw [e] at h ⊢
  rw [← hd] at h ⊢
  rw [hx_pos (n := N / 16 ^ i) (by omega)]
theorem hx_lack (N i d : Nat) (hd : N / 16 ^ i % 16 = d) (h : N / 16 ^ (i + 1) = 0) (h2 : d = 0) : hx (N / 16 ^ i) = [] := by
  have e : N / 16 ^ (i + 1) = N / 16 ^ i / 16 := by rw [Nat.div_div_eq_div_mul, Nat.pow_succ]
  rw [e] at h
  rw [show N / 16 ^ i = 0 by omega, hx_zero]
set_option maxRecDepth 100000 in
set_option maxHeartbeats 1000000 in
theorem text_main (x : WI) (A : Option Addr) (cap : Nat) (w : World) (ho : x.ov = false) (h0 : x.sz ≠ 0) (hs : Rd w (.slice A (dg x.sz).length cap) (dg x.sz)) :
    Calls Try.prog 52 #[.agg #[.bool x.ng, .bool false, .slice A (dg x.sz).length cap]] w fun e w' => e = .returned (str (txt x.v)) ∧ Below w.heap.size w w' := by
  have RX := Lib.hid (fun i hi => hs.at' (n := (dg x.sz).length) i hi)
  have hX0 : Hid (∀ i, (dg x.sz).getD i 0 = x.sz / 4294967296 ^ i % 4294967296) := fun i => dg_getD x.sz i
  have hfew := dg_few x
  have hlt := dg_lt x.sz
  have hne : ¬ (dg x.sz).length = 0 := fun e => h0 ((dg_nil _).1 (List.length_eq_zero_iff.1 e))
  have HT : Hid (txt x.v = if x.ng then 45 :: hx x.sz else hx x.sz) := by
    have := x.txt_eq ho
    unfold hex at this
    rw [if_neg h0] at this
    exact this
  obtain ⟨N, hN⟩ : ∃ N, x.sz = N := ⟨_, rfl⟩
  obtain ⟨n, hn⟩ : ∃ n, (dg x.sz).length = n := ⟨_, rfl⟩
  rw [hn] at RX hfew hlt hne ⊢
  rw [hN] at hX0 HT hlt RX
  obtain ⟨s, hsg⟩ : ∃ s, x.ng = s := ⟨_, rfl⟩
  rw [hsg] at HT ⊢
  have H0 : Hid (N / 16 ^ (8 * n) = 0) := by
    refine Nat.div_eq_of_lt ?_
    rw [Nat.pow_mul]; exact hlt
  have HL : Hid (∀ k, (hx (N / 16 ^ k)).length ≤ 256) := fun k => hx_len 256 _ (by
    refine Nat.lt_of_le_of_lt (Nat.div_le_self _ _) (Nat.lt_of_lt_of_le hlt ?_)
    rw [show (16 : Nat) ^ 256 = 4294967296 ^ 32 by rw [show (4294967296 : Nat) = 16 ^ 8 from rfl, ← Nat.pow_mul]]
    exact Nat.pow_le_pow_right (by decide) hfew)
  have B0 := Lib.hid (Blk.new w #[.bool s, .bool false, .slice A n cap] 32)
  have HB := Lib.hid ((Below.refl w.heap.size w).alloc (Nat.le_refl _) (.cells #[.bool s, .bool false, .slice A n cap] 32))
  clear hs h0 hlt hn hN hsg
  go_enter Try.func52, Try.ntmps52
  go_wp2_with fail
  go_loopw [3, 4] (fun t3 t4 wr => ∃ k : Nat, k ≤ 8 * n ∧ t4 = .int .i64 ((k : Int) - 1) ∧ t3 = str (hx (N / 16 ^ k)) ∧ Hid (Below w.heap.size w wr) ∧ Hid (Blk wr w.heap.size #[.bool s, .bool false, .slice A n cap] 32)) (fun _ t4 _ => (intOf t4 + 1).toNat)
  case atStart =>
    refine ⟨8 * n, Nat.le_refl _, by first | rfl | (congr 1; push_cast; omega) | (simp; done) | (congr 1; unfold wrap64; omega), ?_, HB, B0⟩
    rw [H0.out, hx_zero]; rfl
  case round =>
    obtain ⟨k, hk, rfl, rfl, hb, q0⟩ := hrel
    have e0 : wr.cell? ⟨w.heap.size, 0, none⟩ = some (.bool s) := q0.out.cell (i := 0) rfl
    have e2 : wr.cell? ⟨w.heap.size, 2, none⟩ = some (.slice A n cap) := q0.out.cell (i := 2) rfl
    rcases k with _ | i
    · have k1 : ¬ ((0 : Int) ≤ ((0 : Nat) : Int) - 1) := by decide
      have hl := HL.out 0
      have hp : N / 16 ^ 0 = N := by simp
      rw [hp] at hl ⊢
      have hl2 : (hx N).length + 1 < 9223372036854775808 := by omega
      obtain ⟨L, hL⟩ : ∃ L, hx N = L := ⟨_, rfl⟩
      rw [hL] at hl2 HT ⊢
      cases s with
      | true =>
        go_wp2_with fail
        go_ret
        exact ⟨by rw [HT.out]; rfl, hb.out⟩
      | false =>
        go_wp2_with fail
        go_ret
        exact ⟨by rw [HT.out]; rfl, hb.out⟩
    · obtain ⟨b, o, rfl, hbb, cA, uA⟩ := RX.out (i / 8) (by omega)
      have cA' := (hb.out.cell (p := ⟨b, o + i / 8, none⟩) hbb).trans cA
      rw [hX0.out] at cA' uA
      obtain ⟨v, hv⟩ : ∃ v, N / 4294967296 ^ (i / 8) % 4294967296 = v := ⟨_, rfl⟩
      have hnib := nib32 N i
      rw [hv] at cA' uA hnib
      obtain ⟨q, hq⟩ : ∃ q, i / 8 = q := ⟨_, rfl⟩
      obtain ⟨r, hr⟩ : ∃ r, i % 8 = r := ⟨_, rfl⟩
      rw [hq] at cA'
      rw [hr] at hnib
      have hqn : (q : Int) < (n : Int) := by omega
      have e1 : (((i + 1 : Nat) : Int) - 1) = (i : Int) := by omega
      have tq : (i : Int).tdiv 8 = (q : Int) := by rw [Int.tdiv_eq_ediv_of_nonneg (by omega)]; omega
      have tr : (i : Int).tmod 8 = (r : Int) := by rw [Int.tmod_eq_emod_of_nonneg (by omega)]; omega
      have q0' : (0 : Int) ≤ (q : Int) := by omega
      have r8 : r < 8 := by omega
      obtain ⟨d, hd⟩ : ∃ d, N / 16 ^ i % 16 = d := ⟨_, rfl⟩
      have hd16 : d < 16 := by rw [← hd]; exact Nat.mod_lt _ (by decide)
      obtain ⟨g, hg⟩ : ∃ g, 4 * r = g := ⟨_, rfl⟩
      have g32 : g < 32 := by omega
      have hgi : (4 : Int) * (r : Int) = (g : Int) := by omega
      have hand : bits .and .u32 ((v : Int) / 2 ^ g) 15 = (d : Int) := by
        have e : ((v : Int) / 2 ^ g) = ((v / 2 ^ g : Nat) : Int) := by rw [Int.natCast_ediv, Int.natCast_pow]; rfl
        rw [e, and15_u32 _ (Nat.lt_of_le_of_lt (Nat.div_le_self _ _) uA), ← hg, hnib, hd]
      have MORE := Lib.hid (hx_gain N i d hd)
      have NONE := Lib.hid (hx_lack N i d hd)
      have hl := HL.out (i + 1)
      have hl2 : (hx (N / 16 ^ (i + 1))).length + 1 < 9223372036854775808 := by omega
      have HI : Hid (i ≤ 8 * n) := by show i ≤ 8 * n; omega
      have k0 : (0 : Int) ≤ (i : Int) := by omega
      have hwi : wrap64 ((i : Int) - 1) = (i : Int) - 1 := by unfold wrap64; omega
      rw [e1]
      clear cA hv hq hr hd hg hnib hk
      by_cases hz : N / 16 ^ (i + 1) = 0
      · have HZ := Lib.hid hz
        rw [hz, hx_zero] at MORE hl hl2 ⊢
        clear hz
        by_cases hd0 : d = 0
        · subst hd0
          go_wp2_with fail
          exact ⟨⟨i, HI.out, by first | rfl | rw [hwi], by rw [NONE.out HZ.out rfl], hb, q0⟩, by simp [intOf] <;> omega⟩
        · have hd1 : (0 : Int) < (d : Int) := by omega
          have HD := Lib.hid hd0
          clear hd0
          go_wp2_with fail
          exact ⟨⟨i, HI.out, by first | rfl | rw [hwi], by rw [← MORE.out (.inr HD.out)]; rfl, hb, q0⟩, by simp [intOf] <;> omega⟩
      · have hne2 : (hx (N / 16 ^ (i + 1))).isEmpty = false := by rw [List.isEmpty_eq_false_iff]; exact fun h => hz (hx_nil.1 h)
        have HZ := Lib.hid hz
        clear hz
        obtain ⟨L, hL⟩ : ∃ L, hx (N / 16 ^ (i + 1)) = L := ⟨_, rfl⟩
        rw [hL] at MORE hl2 hne2 ⊢
        clear hL hl
        go_wp2_with fail
        exact ⟨⟨i, HI.out, by first | rfl | rw [hwi], by rw [← MORE.out (.inl HZ.out)], hb, q0⟩, by simp [intOf] <;> omega⟩
set_option maxRecDepth 100000 in
set_option maxHeartbeats 1000000 in
/-- Text. -/
theorem text_r (v : Value) (x : WI) (w : World) (hv : BigIs w v x) :
    Calls Try.prog 52 #[v] w fun e w' => e = .returned (str (txt x.v)) ∧ Below w.heap.size w w' := by
  obtain ⟨A, cap, rfl, hs⟩ := hv.opened
  cases ho : x.ov with
  | true =>
    have e : Hid (x.v = none) := by unfold WI.ov at ho; exact Option.isNone_iff_eq_none.1 ho
    clear hs hv
    go_enter Try.func52, Try.ntmps52
    go_wp2_with fail
    go_ret
    exact ⟨by rw [e.out]; rfl, (by repeat (first | exact Below.refl _ _ | exact Below_of_hid (by assumption) | refine Below.drew ?_ | refine below_drewN ?_ _ | refine Below_putRow ?_ (by first | omega | (simp; done) | (simp; omega) | fail) _ _ | refine Below.alloc ?_ (by first | omega | (simp; done) | (simp; omega) | fail) _ | refine Below.setCell ?_ (by first | omega | (simp; done) | (simp; omega) | fail) _ | refine Below.trans ?_ (Below.mono (by assumption) (by first | omega | (simp; done) | (simp; omega) | fail))))⟩
  | false =>
    by_cases h0 : x.sz = 0
    · have HT : Hid (txt x.v = [48]) := by
        have := x.txt_eq ho
        have hng : x.ng = false := by
          cases hn : x.ng with
          | false => rfl
          | true => exact absurd h0 (WI.ng_sz x hn)
        rw [hng, h0] at this
        exact this
      have hz : (dg x.sz).length = 0 := by rw [h0, dg_zero]; rfl
      rw [hz]
      clear hs hv h0 hz
      go_enter Try.func52, Try.ntmps52
      go_wp2_with fail
      go_ret
      exact ⟨by rw [HT.out]; rfl, (by repeat (first | exact Below.refl _ _ | exact Below_of_hid (by assumption) | refine Below.drew ?_ | refine below_drewN ?_ _ | refine Below_putRow ?_ (by first | omega | (simp; done) | (simp; omega) | fail) _ _ | refine Below.alloc ?_ (by first | omega | (simp; done) | (simp; omega) | fail) _ | refine Below.setCell ?_ (by first | omega | (simp; done) | (simp; omega) | fail) _ | refine Below.trans ?_ (Below.mono (by assumption) (by first | omega | (simp; done) | (simp; omega) | fail))))⟩
    · exact text_main x A cap w ho h0 hs
end Go.Proofs.Ytilginoibhfeiaa
