/- The walks of the document's Sign, det, psd, Det, Psd, Quad, Holds. -/
import Derived.Test.YtdipecepgfaokaaRC
import Derived.Test.YtdipecepgfaokaaBM
namespace Go.Proofs.Ytdipecepgfaokaa
set_option linter.unusedSimpArgs false
set_option linter.unusedVariables false
set_option linter.unusedSimpArgs false
open Go.RowKit

set_option maxRecDepth 100000 in
set_option maxHeartbeats 1000000 in
/-- Sign. -/
theorem sign_r (v : Value) (x : WI) (w : World) (hx : BigIs w v x) :
    Calls Try.prog 37 #[v] w fun e w' => e = .returned (.int .i64 x.sign) ∧ Below w.heap.size w w' := by
  obtain ⟨Ax, cx, rfl, hsx⟩ := hx.opened
  have HSx := Lib.hid hsx
  clear hsx hx
  have HE := Lib.hid x.sign_eq
  have hl : (dg x.sz).length = 0 ↔ x.sz = 0 := by rw [List.length_eq_zero_iff, dg_nil]
  cases ho : x.ov with
  | true =>
    have e : Hid (x.sign = 0) := by show _ = _; have := HE.out; rw [ho] at this; simpa using this
    clear hl
    go_enter Try.func37, Try.ntmps37
    go_wp2_with fail
    go_ret
    exact ⟨ret_int e.out.symm, (by repeat (first | exact Below.refl _ _ | exact Below_of_hid (by assumption) | refine Below.drew ?_ | refine below_drewN ?_ _ | refine Below_putRow ?_ (by first | omega | (simp; done) | (simp; omega) | fail) _ _ | refine Below.alloc ?_ (by first | omega | (simp; done) | (simp; omega) | fail) _ | refine Below.setCell ?_ (by first | omega | (simp; done) | (simp; omega) | fail) _ | refine Below.trans ?_ (Below.mono (by assumption) (by first | omega | (simp; done) | (simp; omega) | fail))))⟩
  | false =>
    by_cases h0 : x.sz = 0
    · have e : Hid (x.sign = 0) := by show _ = _; have := HE.out; simpa [h0] using this
      have hz : (dg x.sz).length = 0 := hl.2 h0
      clear h0 hl
      rw [hz] at HSx ⊢
      go_enter Try.func37, Try.ntmps37
      go_wp2_with fail
      go_ret
      exact ⟨ret_int e.out.symm, (by repeat (first | exact Below.refl _ _ | exact Below_of_hid (by assumption) | refine Below.drew ?_ | refine below_drewN ?_ _ | refine Below_putRow ?_ (by first | omega | (simp; done) | (simp; omega) | fail) _ _ | refine Below.alloc ?_ (by first | omega | (simp; done) | (simp; omega) | fail) _ | refine Below.setCell ?_ (by first | omega | (simp; done) | (simp; omega) | fail) _ | refine Below.trans ?_ (Below.mono (by assumption) (by first | omega | (simp; done) | (simp; omega) | fail))))⟩
    · have hz : ¬ (dg x.sz).length = 0 := fun h => h0 (hl.1 h)
      cases hn : x.ng with
      | true =>
        have e : Hid (x.sign = -1) := by show _ = _; have := HE.out; simpa [h0, ho, hn] using this
        clear h0 hl
        go_enter Try.func37, Try.ntmps37
        go_wp2_with fail
        go_ret
        exact ⟨ret_int e.out.symm, (by repeat (first | exact Below.refl _ _ | exact Below_of_hid (by assumption) | refine Below.drew ?_ | refine below_drewN ?_ _ | refine Below_putRow ?_ (by first | omega | (simp; done) | (simp; omega) | fail) _ _ | refine Below.alloc ?_ (by first | omega | (simp; done) | (simp; omega) | fail) _ | refine Below.setCell ?_ (by first | omega | (simp; done) | (simp; omega) | fail) _ | refine Below.trans ?_ (Below.mono (by assumption) (by first | omega | (simp; done) | (simp; omega) | fail))))⟩
      | false =>
        have e : Hid (x.sign = 1) := by show _ = _; have := HE.out; simpa [h0, ho, hn] using this
        clear h0 hl
        go_enter Try.func37, Try.ntmps37
        go_wp2_with fail
        go_ret
        exact ⟨ret_int e.out.symm, (by repeat (first | exact Below.refl _ _ | exact Below_of_hid (by assumption) | refine Below.drew ?_ | refine below_drewN ?_ _ | refine Below_putRow ?_ (by first | omega | (simp; done) | (simp; omega) | fail) _ _ | refine Below.alloc ?_ (by first | omega | (simp; done) | (simp; omega) | fail) _ | refine Below.setCell ?_ (by first | omega | (simp; done) | (simp; omega) | fail) _ | refine Below.trans ?_ (Below.mono (by assumption) (by first | omega | (simp; done) | (simp; omega) | fail))))⟩
theorem sub_x (a b : Value) (x y z : WI) (w : World) (hz : Hid (x.sub y = z)) (ha : BigIs w a x) (hb : BigIs w b y) :
    Calls Try.prog 47 #[a, b] w fun e w' => (∃ v, e = .returned v ∧ BigIs w' v z) ∧ Below w.heap.size w w' := by
  rw [← hz.out]; exact sub_r a b x y w ha hb
set_option maxRecDepth 100000 in
set_option maxHeartbeats 1000000 in
/-- det. -/
theorem det_r (a b d : Value) (x y z : WI) (w : World) (hx : BigIs w a x) (hy : BigIs w b y) (hz : BigIs w d z) :
    Calls Try.prog 42 #[a, b, d] w fun e w' => (∃ v, e = .returned v ∧ BigIs w' v ((x.mul z).sub (y.mul y))) ∧ Below w.heap.size w w' := by
  obtain ⟨Ax, cx, rfl, hsx⟩ := hx.opened
  have HSx := Lib.hid hsx
  clear hsx hx
  obtain ⟨Ay, cy, rfl, hsy⟩ := hy.opened
  have HSy := Lib.hid hsy
  clear hsy hy
  obtain ⟨Az, cz, rfl, hsz⟩ := hz.opened
  have HSz := Lib.hid hsz
  clear hsz hz
  obtain ⟨x2, hx2⟩ : ∃ t, t = (x.mul z).sub (y.mul y) := ⟨_, rfl⟩
  rw [← hx2]
  have HV : Hid ((x.mul z).sub (y.mul y) = x2) := hx2.symm
  clear hx2
  go_enter Try.func42, Try.ntmps42
  go_wp2_with fail
  have HB : Hid (Below w.heap.size w (((((w).alloc (Obj.cells #[.bool x.ng, .bool x.ov, .slice Ax (dg x.sz).length cx] 73)).alloc (Obj.cells #[.bool y.ng, .bool y.ov, .slice Ay (dg y.sz).length cy] 73)).alloc (Obj.cells #[.bool z.ng, .bool z.ov, .slice Az (dg z.sz).length cz] 73)).alloc (Obj.cells #[.bool false, .bool false, .slice none 0 0] 73)).drew) := (by repeat (first | exact Below.refl _ _ | exact Below_of_hid (by assumption) | refine Below.drew ?_ | refine below_drewN ?_ _ | refine Below_putRow ?_ (by first | omega | (simp; done) | (simp; omega) | fail) _ _ | refine Below.alloc ?_ (by first | omega | (simp; done) | (simp; omega) | fail) _ | refine Below.setCell ?_ (by first | omega | (simp; done) | (simp; omega) | fail) _ | refine Below.trans ?_ (Below.mono (by assumption) (by first | omega | (simp; done) | (simp; omega) | fail))))
  have qx0 := @inh_cell _ _ _ (show (((((w).alloc (Obj.cells #[.bool x.ng, .bool x.ov, .slice Ax (dg x.sz).length cx] 73)).alloc (Obj.cells #[.bool y.ng, .bool y.ov, .slice Ay (dg y.sz).length cy] 73)).alloc (Obj.cells #[.bool z.ng, .bool z.ov, .slice Az (dg z.sz).length cz] 73)).alloc (Obj.cells #[.bool false, .bool false, .slice none 0 0] 73)).cell? ⟨w.heap.size, 0, none⟩ = some (.bool x.ng) from (by go_simp))
  have qx1 := @inh_cell _ _ _ (show (((((w).alloc (Obj.cells #[.bool x.ng, .bool x.ov, .slice Ax (dg x.sz).length cx] 73)).alloc (Obj.cells #[.bool y.ng, .bool y.ov, .slice Ay (dg y.sz).length cy] 73)).alloc (Obj.cells #[.bool z.ng, .bool z.ov, .slice Az (dg z.sz).length cz] 73)).alloc (Obj.cells #[.bool false, .bool false, .slice none 0 0] 73)).cell? ⟨w.heap.size, 1, none⟩ = some (.bool x.ov) from (by go_simp))
  have qx2 := @inh_cell _ _ _ (show (((((w).alloc (Obj.cells #[.bool x.ng, .bool x.ov, .slice Ax (dg x.sz).length cx] 73)).alloc (Obj.cells #[.bool y.ng, .bool y.ov, .slice Ay (dg y.sz).length cy] 73)).alloc (Obj.cells #[.bool z.ng, .bool z.ov, .slice Az (dg z.sz).length cz] 73)).alloc (Obj.cells #[.bool false, .bool false, .slice none 0 0] 73)).cell? ⟨w.heap.size, 2, none⟩ = some (.slice Ax (dg x.sz).length cx) from (by go_simp))
  have qy0 := @inh_cell _ _ _ (show (((((w).alloc (Obj.cells #[.bool x.ng, .bool x.ov, .slice Ax (dg x.sz).length cx] 73)).alloc (Obj.cells #[.bool y.ng, .bool y.ov, .slice Ay (dg y.sz).length cy] 73)).alloc (Obj.cells #[.bool z.ng, .bool z.ov, .slice Az (dg z.sz).length cz] 73)).alloc (Obj.cells #[.bool false, .bool false, .slice none 0 0] 73)).cell? ⟨w.heap.size + 1, 0, none⟩ = some (.bool y.ng) from (by go_simp))
  have qy1 := @inh_cell _ _ _ (show (((((w).alloc (Obj.cells #[.bool x.ng, .bool x.ov, .slice Ax (dg x.sz).length cx] 73)).alloc (Obj.cells #[.bool y.ng, .bool y.ov, .slice Ay (dg y.sz).length cy] 73)).alloc (Obj.cells #[.bool z.ng, .bool z.ov, .slice Az (dg z.sz).length cz] 73)).alloc (Obj.cells #[.bool false, .bool false, .slice none 0 0] 73)).cell? ⟨w.heap.size + 1, 1, none⟩ = some (.bool y.ov) from (by go_simp))
  have qy2 := @inh_cell _ _ _ (show (((((w).alloc (Obj.cells #[.bool x.ng, .bool x.ov, .slice Ax (dg x.sz).length cx] 73)).alloc (Obj.cells #[.bool y.ng, .bool y.ov, .slice Ay (dg y.sz).length cy] 73)).alloc (Obj.cells #[.bool z.ng, .bool z.ov, .slice Az (dg z.sz).length cz] 73)).alloc (Obj.cells #[.bool false, .bool false, .slice none 0 0] 73)).cell? ⟨w.heap.size + 1, 2, none⟩ = some (.slice Ay (dg y.sz).length cy) from (by go_simp))
  have qz0 := @inh_cell _ _ _ (show (((((w).alloc (Obj.cells #[.bool x.ng, .bool x.ov, .slice Ax (dg x.sz).length cx] 73)).alloc (Obj.cells #[.bool y.ng, .bool y.ov, .slice Ay (dg y.sz).length cy] 73)).alloc (Obj.cells #[.bool z.ng, .bool z.ov, .slice Az (dg z.sz).length cz] 73)).alloc (Obj.cells #[.bool false, .bool false, .slice none 0 0] 73)).cell? ⟨w.heap.size + 1 + 1, 0, none⟩ = some (.bool z.ng) from (by go_simp))
  have qz1 := @inh_cell _ _ _ (show (((((w).alloc (Obj.cells #[.bool x.ng, .bool x.ov, .slice Ax (dg x.sz).length cx] 73)).alloc (Obj.cells #[.bool y.ng, .bool y.ov, .slice Ay (dg y.sz).length cy] 73)).alloc (Obj.cells #[.bool z.ng, .bool z.ov, .slice Az (dg z.sz).length cz] 73)).alloc (Obj.cells #[.bool false, .bool false, .slice none 0 0] 73)).cell? ⟨w.heap.size + 1 + 1, 1, none⟩ = some (.bool z.ov) from (by go_simp))
  have qz2 := @inh_cell _ _ _ (show (((((w).alloc (Obj.cells #[.bool x.ng, .bool x.ov, .slice Ax (dg x.sz).length cx] 73)).alloc (Obj.cells #[.bool y.ng, .bool y.ov, .slice Ay (dg y.sz).length cy] 73)).alloc (Obj.cells #[.bool z.ng, .bool z.ov, .slice Az (dg z.sz).length cz] 73)).alloc (Obj.cells #[.bool false, .bool false, .slice none 0 0] 73)).cell? ⟨w.heap.size + 1 + 1, 2, none⟩ = some (.slice Az (dg z.sz).length cz) from (by go_simp))
  refine wp_region_ghost' 7 (fun k => match k with | 2 => some (gBig (x.mul z)) | 5 => some (gBig (y.mul y)) | 6 => some (gBig x2) | _ => none) (fun k => match k with | 6 => [2, 5] | _ => []) (by kernel_rfl) (by kernel_rfl) ?_; refine ex_listH ?_; apply Exists.intro; refine ex_listH ?_; apply Exists.intro; refine ex_listH ⟨undef, ?_⟩; refine ex_listH ?_; apply Exists.intro; refine ex_listH ?_; apply Exists.intro; refine ex_listH ⟨undef, ?_⟩; refine ex_listH ⟨undef, ?_⟩; refine ⟨[], fun gg NN hN => ?_⟩; simp only [List.append_eq, List.cons_append, List.nil_append, List.take_succ_cons, List.take_zero, List.drop_succ_cons, List.drop_zero]; (refine lexH_quiet rfl ?_; go_big_quiet_step (first | exact rfl | (fail)); refine wpQuiet_nil ⟨?hd, ?_⟩; (case hd => (simp only [dstVh, Array.getD_eq_getD_getElem?, List.getElem?_toArray, List.getElem?_cons_zero, List.getElem?_cons_succ, Option.getD_some, List.getD_cons_zero, List.getD_cons_succ]; exact rfl))); (refine lexH_quiet rfl ?_; go_big_quiet_step (first | exact rfl | (fail)); refine wpQuiet_nil ⟨?hd, ?_⟩; (case hd => (simp only [dstVh, Array.getD_eq_getD_getElem?, List.getElem?_toArray, List.getElem?_cons_zero, List.getElem?_cons_succ, Option.getD_some, List.getD_cons_zero, List.getD_cons_succ]; exact rfl))); (refine lexH_ghost _ (by rfl) (by rfl) ?hex ?_; (case hex => (intro px; refine ghost_call (fn := 48) (by go_simp; rfl) ?_; exact mul_r _ _ _ _ _ (BigIs.mk (HSx.out.below (inh_low HB.out px))) (BigIs.mk (HSz.out.below (inh_low HB.out px))))); simp only [Act.put, List.setIfInBounds_toArray, List.set_cons_succ, List.set_cons_zero]); (refine lexH_quiet rfl ?_; go_big_quiet_step (first | exact rfl | (fail)); refine wpQuiet_nil ⟨?hd, ?_⟩; (case hd => (simp only [dstVh, Array.getD_eq_getD_getElem?, List.getElem?_toArray, List.getElem?_cons_zero, List.getElem?_cons_succ, Option.getD_some, List.getD_cons_zero, List.getD_cons_succ]; exact rfl))); (refine lexH_quiet rfl ?_; go_big_quiet_step (first | exact rfl | (fail)); refine wpQuiet_nil ⟨?hd, ?_⟩; (case hd => (simp only [dstVh, Array.getD_eq_getD_getElem?, List.getElem?_toArray, List.getElem?_cons_zero, List.getElem?_cons_succ, Option.getD_some, List.getD_cons_zero, List.getD_cons_succ]; exact rfl))); (refine lexH_ghost _ (by rfl) (by rfl) ?hex ?_; (case hex => (intro px; refine ghost_call (fn := 48) (by go_simp; rfl) ?_; exact mul_r _ _ _ _ _ (BigIs.mk (HSy.out.below (inh_low HB.out px))) (BigIs.mk (HSy.out.below (inh_low HB.out px))))); simp only [Act.put, List.setIfInBounds_toArray, List.set_cons_succ, List.set_cons_zero]); (refine lexH_ghost _ (by rfl) (by rfl) ?hex ?_; (case hex => (intro px; refine ghost_call (fn := 47) (by go_simp; rfl) ?_; exact sub_x _ _ _ _ _ _ HV (px.has 2 (hN 6 2 (by simp)) _ rfl) (px.has 5 (hN 6 5 (by simp)) _ rfl))); simp only [Act.put, List.setIfInBounds_toArray, List.set_cons_succ, List.set_cons_zero])
  refine lexH_nil ?_
  intro w1 hb1' hh
  have hb1 : Below (((((w).alloc (Obj.cells #[.bool x.ng, .bool x.ov, .slice Ax (dg x.sz).length cx] 73)).alloc (Obj.cells #[.bool y.ng, .bool y.ov, .slice Ay (dg y.sz).length cy] 73)).alloc (Obj.cells #[.bool z.ng, .bool z.ov, .slice Az (dg z.sz).length cz] 73)).alloc (Obj.cells #[.bool false, .bool false, .slice none 0 0] 73)).heap.size (((((w).alloc (Obj.cells #[.bool x.ng, .bool x.ov, .slice Ax (dg x.sz).length cx] 73)).alloc (Obj.cells #[.bool y.ng, .bool y.ov, .slice Ay (dg y.sz).length cy] 73)).alloc (Obj.cells #[.bool z.ng, .bool z.ov, .slice Az (dg z.sz).length cz] 73)).alloc (Obj.cells #[.bool false, .bool false, .slice none 0 0] 73)) w1 := hb1'
  obtain ⟨A2, cap2, e7, hs2⟩ := (show BigIs w1 (gg 6) x2 from hh 6 _ (by decide) rfl).opened
  have HS2 := Lib.hid hs2
  rw [e7]
  clear hb1' hh hs2 e7 qx0 qx1 qx2 qy0 qy1 qy2 qz0 qz1 qz2
  have z_w1 := hb1.size; (try simp at z_w1); obtain ⟨y_w1_0_0, c_w1_0_0, f_w1_0_0, r_w1_0_0, t_w1_0_0, p_w1_0_0⟩ := bk hb1 (w.heap.size) (by first | omega | (simp; done) | (simp; omega) | fail); obtain ⟨y_w1_0_1, c_w1_0_1, f_w1_0_1, r_w1_0_1, t_w1_0_1, p_w1_0_1⟩ := bk hb1 (w.heap.size + 1) (by first | omega | (simp; done) | (simp; omega) | fail); obtain ⟨y_w1_0_2, c_w1_0_2, f_w1_0_2, r_w1_0_2, t_w1_0_2, p_w1_0_2⟩ := bk hb1 (w.heap.size + 1 + 1) (by first | omega | (simp; done) | (simp; omega) | fail); obtain ⟨y_w1_0_3, c_w1_0_3, f_w1_0_3, r_w1_0_3, t_w1_0_3, p_w1_0_3⟩ := bk hb1 (w.heap.size + 1 + 1 + 1) (by first | omega | (simp; done) | (simp; omega) | fail)
  go_wp2_with fail
  refine bodyPost_row 3 #[.bool x2.ng, .bool x2.ov, .slice A2 (dg x2.sz).length cap2] rfl rfl rfl Try.underlying73 rfl (by kernel_rfl) (row_of_cells 2 _ rfl (by intro i hi; rcases i with _ | _ | _ | i; (go_simp); (go_simp); (go_simp); exact absurd hi (by omega))) ⟨⟨_, rfl, BigIs.mk (HS2.out.res (by go_simp) (by go_simp) (by go_simp) _ _ _)⟩, (by repeat (first | exact Below.refl _ _ | exact Below_of_hid (by assumption) | refine Below.drew ?_ | refine below_drewN ?_ _ | refine Below_putRow ?_ (by first | omega | (simp; done) | (simp; omega) | fail) _ _ | refine Below.alloc ?_ (by first | omega | (simp; done) | (simp; omega) | fail) _ | refine Below.setCell ?_ (by first | omega | (simp; done) | (simp; omega) | fail) _ | refine Below.trans ?_ (Below.mono (by assumption) (by first | omega | (simp; done) | (simp; omega) | fail))))⟩
end Go.Proofs.Ytdipecepgfaokaa
