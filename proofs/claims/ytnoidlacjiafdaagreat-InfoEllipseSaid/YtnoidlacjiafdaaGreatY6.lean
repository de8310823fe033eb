/- Info.Ellipse of the document, numbers that are not over. -/
import Derived.Test.YtnoidlacjiafdaaGreatY5
import Derived.Test.YtnoidlacjiafdaaGreatXA
namespace Go.Proofs.YtnoidlacjiafdaaGreat
set_option linter.unusedSimpArgs false
set_option linter.unusedVariables false
set_option linter.unusedSimpArgs false
open Go.RowKit

@[go_sem ↓] theorem lcf_21 (P : Program) (w : World) (b o : Nat) : (loadCellsFrom ⟨b, o, none⟩ 0 21 #[]).run P w = rowResA (w.row? b o 21) w (lcf P b o 21 w) := lcf_row? w b o 21
theorem neg_x (a : Value) (x z : WI) (w : World) (hz : Hid (x.neg = z)) (ha : BigIs w a x) : Calls Tryz.prog 60 #[a] w fun e w' => (∃ v, e = .returned v ∧ BigIs w' v z) ∧ Below w.heap.size w w' := negB_v hz ha
def e5n (a b c d e : Int) : Nat → Int | 0 => a | 1 => b | 2 => c | 3 => d | _ => e
set_option maxRecDepth 100000 in
theorem e5_at (a b c d e : Int) (k : Nat) (hk : k < 5) (w : World) : Sem.run Tryz.prog (Instr.index 90 (.agg #[.int .i64 a, .int .i64 b, .int .i64 c, .int .i64 d, .int .i64 e]) (.int .i64 k)) w = .ok (.int .i64 (e5n a b c d e k)) w := by
  rcases k with _ | _ | _ | _ | _ | k
  · rfl
  · rfl
  · rfl
  · rfl
  · rfl
  · omega
set_option maxRecDepth 100000 in
set_option maxHeartbeats 16000000 in
theorem rell_main (u : Value) (z0 z1 z2 z3 z4 z5 z6 m1 m2 d dd uu vv uv t1 t2 t3 t4 t5 t6 t7 r p q s0 s a1 a2 ex b1 b2 ey : WI) (w : World) (h_m1 : Hid (z0.mul z2 = m1)) (h_m2 : Hid (z1.mul z1 = m2)) (h_d : Hid (m1.sub m2 = d)) (h_dd : Hid (d.mul d = dd)) (h_uu : Hid (z3.mul z3 = uu)) (h_vv : Hid (z4.mul z4 = vv)) (h_uv : Hid (z3.mul z4 = uv)) (h_t1 : Hid (z6.sub z5 = t1)) (h_t2 : Hid (t1.mul d = t2)) (h_t3 : Hid ((z2.mul uu).add (z0.mul vv) = t3)) (h_t4 : Hid (z1.mul uv = t4)) (h_t5 : Hid ((WI.of 2).mul t4 = t5)) (h_t6 : Hid (t5.neg = t6)) (h_t7 : Hid (t3.add t6 = t7)) (h_r : Hid (t2.add t7 = r)) (h_p : Hid (r.mul z2 = p)) (h_q : Hid (r.mul z0 = q)) (h_s0 : Hid (r.mul z1 = s0)) (h_s : Hid (s0.neg = s)) (h_a1 : Hid (z2.mul z3 = a1)) (h_a2 : Hid (z1.mul z4 = a2)) (h_ex : Hid (a1.sub a2 = ex)) (h_b1 : Hid (z0.mul z4 = b1)) (h_b2 : Hid (z1.mul z3 = b2)) (h_ey : Hid (b1.sub b2 = ey))
    (hall : Hid (overB [z0, z1, z2, z3, z4, z5, z6] = false)) (hov : Hid (d.ov = false ∧ dd.ov = false ∧ r.ov = false ∧ p.ov = false ∧ q.ov = false ∧ s.ov = false ∧ ex.ov = false ∧ ey.ov = false)) (hi : InfoIs w u z0 z1 z2 z3 z4 z5 z6)
    (R : El × Int) (sA sd sr cx cy ca cb cc er1 er2 er3 er4 er5 : Int) (hsA : Hid (z0.sign = sA)) (hsd : Hid (d.sign = sd)) (hsr : Hid (r.sign = sr))
    (N1 : Hid (nearV ex d = (cx, er1))) (N2 : Hid (nearV ey d = (cy, er2))) (N3 : Hid (ceilV p dd = (ca, er3))) (N4 : Hid (floorV s dd = (cb, er4))) (N5 : Hid (ceilV q dd = (cc, er5)))
    (hR1 : Hid (sA ≤ 0 ∨ sd ≤ 0 → R = (El.zero, 1))) (hR2 : Hid (0 < sA → 0 < sd → sr < 0 → R = (El.zero, 3)))
    (hR3 : Hid (0 < sA → 0 < sd → 0 ≤ sr → ∀ k, k < 5 → ¬ e5n er1 er2 er3 er4 er5 k = 0 → R = (El.zero, 2))) (hR4 : Hid (0 < sA → 0 < sd → 0 ≤ sr → (∀ k, k < 5 → e5n er1 er2 er3 er4 er5 k = 0) → R = ellEnd cx cy ca cb cc 0)) :
    Calls Tryz.prog 16 #[u] w fun e w' => e = .returned (.tuple #[elV R.1, .int .i64 R.2]) ∧ Below w.heap.size w w' := by
  obtain ⟨n0, o0, A0, l0, k0, n1, o1, A1, l1, k1, n2, o2, A2, l2, k2, n3, o3, A3, l3, k3, n4, o4, A4, l4, k4, n5, o5, A5, l5, k5, n6, o6, A6, l6, k6, rfl, h0, h1, h2, h3, h4, h5, h6⟩ := hi
  have C0 := Lib.hid h0
  have C1 := Lib.hid h1
  have C2 := Lib.hid h2
  have C3 := Lib.hid h3
  have C4 := Lib.hid h4
  have C5 := Lib.hid h5
  have C6 := Lib.hid h6
  clear h0 h1 h2 h3 h4 h5 h6
  have K2 : Hid (I64 2) := by unfold Hid I64; omega
  go_enter Tryz.func16, Tryz.ntmps16
  go_wp2_with fail
  obtain ⟨u0, hu0⟩ : ∃ u, u = (((w).alloc (Obj.cells #[.bool n0, .bool o0, .slice A0 l0 k0, .bool n1, .bool o1, .slice A1 l1 k1, .bool n2, .bool o2, .slice A2 l2 k2, .bool n3, .bool o3, .slice A3 l3 k3, .bool n4, .bool o4, .slice A4 l4 k4, .bool n5, .bool o5, .slice A5 l5 k5, .bool n6, .bool o6, .slice A6 l6 k6] 54)).alloc (Obj.cells #[.int .i64 0, .int .i64 0, .int .i64 0, .int .i64 0, .int .i64 0] 27)).alloc (Obj.cells #[.int .i64 0, .int .i64 0, .int .i64 0, .int .i64 0, .int .i64 0] 27) := ⟨_, rfl⟩
  rw [← hu0]
  have HB : Hid (Below w.heap.size w u0) := by rw [hu0]; show Below w.heap.size w _; exact below_byR
  have X0 : Hid (Blk u0 (w.heap.size) #[.bool n0, .bool o0, .slice A0 l0 k0, .bool n1, .bool o1, .slice A1 l1 k1, .bool n2, .bool o2, .slice A2 l2 k2, .bool n3, .bool o3, .slice A3 l3 k3, .bool n4, .bool o4, .slice A4 l4 k4, .bool n5, .bool o5, .slice A5 l5 k5, .bool n6, .bool o6, .slice A6 l6 k6] 54) := by rw [hu0]; exact ((Blk.new' _ _ _ (by simp)).alloc _).alloc _
  have X1 : Hid (Blk u0 (w.heap.size + 1) #[.int .i64 0, .int .i64 0, .int .i64 0, .int .i64 0, .int .i64 0] 27) := by rw [hu0]; exact (Blk.new' _ _ _ (by simp)).alloc _
  have X2 : Hid (Blk u0 (w.heap.size + 1 + 1) #[.int .i64 0, .int .i64 0, .int .i64 0, .int .i64 0, .int .i64 0] 27) := by rw [hu0]; exact Blk.new' _ _ _ (by simp)
  replace C0 := Lib.hid (C0.out.below (show Below w.heap.size w u0 from HB.out))
  replace C1 := Lib.hid (C1.out.below (show Below w.heap.size w u0 from HB.out))
  replace C2 := Lib.hid (C2.out.below (show Below w.heap.size w u0 from HB.out))
  replace C3 := Lib.hid (C3.out.below (show Below w.heap.size w u0 from HB.out))
  replace C4 := Lib.hid (C4.out.below (show Below w.heap.size w u0 from HB.out))
  replace C5 := Lib.hid (C5.out.below (show Below w.heap.size w u0 from HB.out))
  replace C6 := Lib.hid (C6.out.below (show Below w.heap.size w u0 from HB.out))
  clear hu0
  have plX0 := X0.out.lt
  have plX1 := X1.out.lt
  have plX2 := X2.out.lt
  have qX0_0 := @inh_cell _ _ _ (show u0.cell? _ = some (.bool n0) from X0.out.cell (i := 0) rfl)
  have qX0_1 := @inh_cell _ _ _ (show u0.cell? _ = some (.bool o0) from X0.out.cell (i := 1) rfl)
  have qX0_2 := @inh_cell _ _ _ (show u0.cell? _ = some (.slice A0 l0 k0) from X0.out.cell (i := 2) rfl)
  have qX0_3 := @inh_cell _ _ _ (show u0.cell? _ = some (.bool n1) from X0.out.cell (i := 3) rfl)
  have qX0_4 := @inh_cell _ _ _ (show u0.cell? _ = some (.bool o1) from X0.out.cell (i := 4) rfl)
  have qX0_5 := @inh_cell _ _ _ (show u0.cell? _ = some (.slice A1 l1 k1) from X0.out.cell (i := 5) rfl)
  have qX0_6 := @inh_cell _ _ _ (show u0.cell? _ = some (.bool n2) from X0.out.cell (i := 6) rfl)
  have qX0_7 := @inh_cell _ _ _ (show u0.cell? _ = some (.bool o2) from X0.out.cell (i := 7) rfl)
  have qX0_8 := @inh_cell _ _ _ (show u0.cell? _ = some (.slice A2 l2 k2) from X0.out.cell (i := 8) rfl)
  have qX0_9 := @inh_cell _ _ _ (show u0.cell? _ = some (.bool n3) from X0.out.cell (i := 9) rfl)
  have qX0_10 := @inh_cell _ _ _ (show u0.cell? _ = some (.bool o3) from X0.out.cell (i := 10) rfl)
  have qX0_11 := @inh_cell _ _ _ (show u0.cell? _ = some (.slice A3 l3 k3) from X0.out.cell (i := 11) rfl)
  have qX0_12 := @inh_cell _ _ _ (show u0.cell? _ = some (.bool n4) from X0.out.cell (i := 12) rfl)
  have qX0_13 := @inh_cell _ _ _ (show u0.cell? _ = some (.bool o4) from X0.out.cell (i := 13) rfl)
  have qX0_14 := @inh_cell _ _ _ (show u0.cell? _ = some (.slice A4 l4 k4) from X0.out.cell (i := 14) rfl)
  have qX0_15 := @inh_cell _ _ _ (show u0.cell? _ = some (.bool n5) from X0.out.cell (i := 15) rfl)
  have qX0_16 := @inh_cell _ _ _ (show u0.cell? _ = some (.bool o5) from X0.out.cell (i := 16) rfl)
  have qX0_17 := @inh_cell _ _ _ (show u0.cell? _ = some (.slice A5 l5 k5) from X0.out.cell (i := 17) rfl)
  have qX0_18 := @inh_cell _ _ _ (show u0.cell? _ = some (.bool n6) from X0.out.cell (i := 18) rfl)
  have qX0_19 := @inh_cell _ _ _ (show u0.cell? _ = some (.bool o6) from X0.out.cell (i := 19) rfl)
  have qX0_20 := @inh_cell _ _ _ (show u0.cell? _ = some (.slice A6 l6 k6) from X0.out.cell (i := 20) rfl)
  have HL : Hid (Below u0.heap.size u0 u0.drew) := (Below.refl _ _).drew
  refine wp_region_ghost' 12 (fun k => match k with | 4 => some (gBig m1) | 9 => some (gBig m2) | 10 => some (gBig d) | 11 => some (gCell u0.heap.size #[.bool false, .bool false, .slice none 0 0] 52) | _ => none) (fun k => match k with | 10 => [4, 9] | _ => []) (by kernel_rfl) (by kernel_rfl) ?_; refine ex_listH ?_; apply Exists.intro; refine ex_listH ?_; apply Exists.intro; refine ex_listH ?_; apply Exists.intro; refine ex_listH ?_; apply Exists.intro; refine ex_listH ⟨undef, ?_⟩; refine ex_listH ?_; apply Exists.intro; refine ex_listH ?_; apply Exists.intro; refine ex_listH ?_; apply Exists.intro; refine ex_listH ?_; apply Exists.intro; refine ex_listH ⟨undef, ?_⟩; refine ex_listH ⟨undef, ?_⟩; refine ex_listH ⟨undef, ?_⟩; refine ⟨[], fun gg NN hN => ?_⟩; simp only [List.append_eq, List.cons_append, List.nil_append, List.take_succ_cons, List.take_zero, List.drop_succ_cons, List.drop_zero]; (repeat (refine lexH_quiet rfl ?_; go_big_quiet_step (first | exact rfl | (fail)); refine wpQuiet_nil ⟨?hd, ?_⟩; (case hd => (simp only [dstVh, Array.getD_eq_getD_getElem?, List.getElem?_toArray, List.getElem?_cons_zero, List.getElem?_cons_succ, Option.getD_some, List.getD_cons_zero, List.getD_cons_succ]; exact rfl)))); (refine lexH_ghost _ (by rfl) (by rfl) ?hex ?_; (case hex => (intro px; refine ghost_call (fn := 28) (by go_simp; rfl) ?_; exact mul_x _ _ _ _ _ _ h_m1 (C0.out.below (inh_low HL.out px)) (C2.out.below (inh_low HL.out px)))); simp only [Act.put, List.setIfInBounds_toArray, List.set_cons_succ, List.set_cons_zero]); (repeat (refine lexH_quiet rfl ?_; go_big_quiet_step (first | exact rfl | (fail)); refine wpQuiet_nil ⟨?hd, ?_⟩; (case hd => (simp only [dstVh, Array.getD_eq_getD_getElem?, List.getElem?_toArray, List.getElem?_cons_zero, List.getElem?_cons_succ, Option.getD_some, List.getD_cons_zero, List.getD_cons_succ]; exact rfl)))); (refine lexH_ghost _ (by rfl) (by rfl) ?hex ?_; (case hex => (intro px; refine ghost_call (fn := 28) (by go_simp; rfl) ?_; exact mul_x _ _ _ _ _ _ h_m2 (C1.out.below (inh_low HL.out px)) (C1.out.below (inh_low HL.out px)))); simp only [Act.put, List.setIfInBounds_toArray, List.set_cons_succ, List.set_cons_zero]); (refine lexH_ghost _ (by rfl) (by rfl) ?hex ?_; (case hex => (intro px; refine ghost_call (fn := 27) (by go_simp; rfl) ?_; exact sub_x _ _ _ _ _ _ h_d (px.has 4 (hN 10 4 (by simp)) _ rfl) (px.has 9 (hN 10 9 (by simp)) _ rfl))); simp only [Act.put, List.setIfInBounds_toArray, List.set_cons_succ, List.set_cons_zero]); (refine lexH_ghost _ (by rfl) (by rfl) ?hex ?_; (case hex => (intro px; exact ghost_alloc (by have := px.low.size; simp at this; omega) (by first | (go_simp; done) | (go_simp; rfl)))); simp only [Act.put, List.setIfInBounds_toArray, List.set_cons_succ, List.set_cons_zero])
  refine lexH_nil ?_
  intro x1 hb' hh
  have hb : Below u0.heap.size u0 x1 := hb'
  clear hb' HL
  clear qX0_0 qX0_1 qX0_2 qX0_3 qX0_4 qX0_5 qX0_6 qX0_7 qX0_8 qX0_9 qX0_10 qX0_11 qX0_12 qX0_13 qX0_14 qX0_15 qX0_16 qX0_17 qX0_18 qX0_19 qX0_20
  replace X0 := Lib.hid (X0.out.keep hb)
  replace X1 := Lib.hid (X1.out.keep hb)
  replace X2 := Lib.hid (X2.out.keep hb)
  replace C0 := Lib.hid (C0.out.below hb)
  replace C1 := Lib.hid (C1.out.below hb)
  replace C2 := Lib.hid (C2.out.below hb)
  replace C3 := Lib.hid (C3.out.below hb)
  replace C4 := Lib.hid (C4.out.below hb)
  replace C5 := Lib.hid (C5.out.below hb)
  replace C6 := Lib.hid (C6.out.below hb)
  replace HB := Lib.hid (HB.out.trans (hb.mono HB.out.size))
  clear hb
  obtain ⟨nd, od, Ad, ld, kd, e10, hd⟩ := (show BigIs x1 (gg 10) d from hh 10 _ (by decide) rfl).lettered
  have Cd := Lib.hid hd
  rw [e10]
  clear hd e10
  obtain ⟨gXD, e11, l11, b11⟩ := hh 11 _ (by decide) rfl
  rw [e11]
  have lt_X0_XD : w.heap.size < gXD := by omega
  have lt_X1_XD : w.heap.size + 1 < gXD := by omega
  have lt_X2_XD : w.heap.size + 1 + 1 < gXD := by omega
  have gw_XD : w.heap.size ≤ gXD := by omega
  have XD : Hid (Blk x1 gXD #[.bool false, .bool false, .slice none 0 0] 52) := b11
  clear b11 e11
  clear hh plX0 plX1 plX2
  have qXD_0 := XD.out.cell (i := 0) (v := .bool false) rfl
  have qXD_1 := XD.out.cell (i := 1) (v := .bool false) rfl
  have qXD_2 := XD.out.cell (i := 2) (v := .slice none 0 0) rfl
  have rl_XD := XD.out.lt
  have fz_XD := XD.out.frozen
  have ft_XD := XD.out.fits 3 (by simp)
  go_wp2_with fail
  clear qXD_0 qXD_1 qXD_2 rl_XD fz_XD ft_XD
  obtain ⟨v2, hv⟩ : ∃ v, v = ((x1.setCell ⟨gXD, 0, none⟩ (.bool nd)).setCell ⟨gXD, 1, none⟩ (.bool od)).setCell ⟨gXD, 2, none⟩ (.slice Ad ld kd) := ⟨_, rfl⟩
  rw [← hv]
  have ho : OnlyAt (gXD) x1 v2 := by rw [hv]; exact OnlyAt.refl.set3 _ _ _
  have hn := hv
  replace C0 := Lib.hid (C0.out.only ho XD.out (big_no _ _ _ _ _))
  replace C1 := Lib.hid (C1.out.only ho XD.out (big_no _ _ _ _ _))
  replace C2 := Lib.hid (C2.out.only ho XD.out (big_no _ _ _ _ _))
  replace C3 := Lib.hid (C3.out.only ho XD.out (big_no _ _ _ _ _))
  replace C4 := Lib.hid (C4.out.only ho XD.out (big_no _ _ _ _ _))
  replace C5 := Lib.hid (C5.out.only ho XD.out (big_no _ _ _ _ _))
  replace C6 := Lib.hid (C6.out.only ho XD.out (big_no _ _ _ _ _))
  replace Cd := Lib.hid (Cd.out.only ho XD.out (big_no _ _ _ _ _))
  replace X0 := Lib.hid (ho.blk X0.out (by omega))
  replace X1 := Lib.hid (ho.blk X1.out (by omega))
  replace X2 := Lib.hid (ho.blk X2.out (by omega))
  replace HB := Lib.hid (OnlyAt.below ho HB.out (Nat.le_refl _) (by omega))
  replace XD : Hid (Blk v2 (gXD) #[.bool nd, .bool od, .slice Ad ld kd] 52) := by rw [hv]; exact XD.out.set3 _ _ _
  clear ho hn hv
  refine Calls.mono (mul_x _ _ _ _ _ _ h_dd Cd.out Cd.out) ?_
  rintro e x3 ⟨⟨v, rfl, hv⟩, hb⟩
  obtain ⟨ndd, odd, Add, ldd, kdd, rfl, hdd⟩ := hv.lettered
  have Cdd := Lib.hid hdd
  clear hv hdd
  replace X0 := Lib.hid (X0.out.keep hb)
  replace X1 := Lib.hid (X1.out.keep hb)
  replace X2 := Lib.hid (X2.out.keep hb)
  replace XD := Lib.hid (XD.out.keep hb)
  replace C0 := Lib.hid (C0.out.below hb)
  replace C1 := Lib.hid (C1.out.below hb)
  replace C2 := Lib.hid (C2.out.below hb)
  replace C3 := Lib.hid (C3.out.below hb)
  replace C4 := Lib.hid (C4.out.below hb)
  replace C5 := Lib.hid (C5.out.below hb)
  replace C6 := Lib.hid (C6.out.below hb)
  replace Cd := Lib.hid (Cd.out.below hb)
  replace HB := Lib.hid (HB.out.trans (hb.mono HB.out.size))
  clear hb
  go_wp2_with fail
  obtain ⟨u4, hu⟩ : ∃ u, u = x3.alloc (Obj.cells #[.bool ndd, .bool odd, .slice Add ldd kdd] 52) := ⟨_, rfl⟩
  rw [← hu]
  obtain ⟨gXE, hg⟩ : ∃ g, x3.heap.size = g := ⟨_, rfl⟩
  have lt_X0_XE : w.heap.size < gXE := by rw [← hg]; exact X0.out.lt
  have lt_X1_XE : w.heap.size + 1 < gXE := by rw [← hg]; exact X1.out.lt
  have lt_X2_XE : w.heap.size + 1 + 1 < gXE := by rw [← hg]; exact X2.out.lt
  have lt_XD_XE : gXD < gXE := by rw [← hg]; exact XD.out.lt
  have gw_XE : w.heap.size ≤ gXE := by rw [← hg]; exact HB.out.size
  have hb : Below x3.heap.size x3 u4 := by rw [hu]; exact (Below.refl _ _).alloc (Nat.le_refl _) _
  replace X0 := Lib.hid (X0.out.keep hb)
  replace X1 := Lib.hid (X1.out.keep hb)
  replace X2 := Lib.hid (X2.out.keep hb)
  replace XD := Lib.hid (XD.out.keep hb)
  replace C0 := Lib.hid (C0.out.below hb)
  replace C1 := Lib.hid (C1.out.below hb)
  replace C2 := Lib.hid (C2.out.below hb)
  replace C3 := Lib.hid (C3.out.below hb)
  replace C4 := Lib.hid (C4.out.below hb)
  replace C5 := Lib.hid (C5.out.below hb)
  replace C6 := Lib.hid (C6.out.below hb)
  replace Cd := Lib.hid (Cd.out.below hb)
  replace Cdd := Lib.hid (Cdd.out.below hb)
  replace HB := Lib.hid (HB.out.trans (hb.mono HB.out.size))
  clear hb
  have XE : Hid (Blk u4 gXE #[.bool ndd, .bool odd, .slice Add ldd kdd] 52) := by rw [hu, ← hg]; exact Blk.new _ _ _
  rw [hg]
  clear hu hg
  have plX0 := X0.out.lt
  have plX1 := X1.out.lt
  have plX2 := X2.out.lt
  have plXD := XD.out.lt
  have plXE := XE.out.lt
  have qX0_0 := @inh_cell _ _ _ (show u4.cell? _ = some (.bool n0) from X0.out.cell (i := 0) rfl)
  have qX0_1 := @inh_cell _ _ _ (show u4.cell? _ = some (.bool o0) from X0.out.cell (i := 1) rfl)
  have qX0_2 := @inh_cell _ _ _ (show u4.cell? _ = some (.slice A0 l0 k0) from X0.out.cell (i := 2) rfl)
  have qX0_3 := @inh_cell _ _ _ (show u4.cell? _ = some (.bool n1) from X0.out.cell (i := 3) rfl)
  have qX0_4 := @inh_cell _ _ _ (show u4.cell? _ = some (.bool o1) from X0.out.cell (i := 4) rfl)
  have qX0_5 := @inh_cell _ _ _ (show u4.cell? _ = some (.slice A1 l1 k1) from X0.out.cell (i := 5) rfl)
  have qX0_6 := @inh_cell _ _ _ (show u4.cell? _ = some (.bool n2) from X0.out.cell (i := 6) rfl)
  have qX0_7 := @inh_cell _ _ _ (show u4.cell? _ = some (.bool o2) from X0.out.cell (i := 7) rfl)
  have qX0_8 := @inh_cell _ _ _ (show u4.cell? _ = some (.slice A2 l2 k2) from X0.out.cell (i := 8) rfl)
  have qX0_9 := @inh_cell _ _ _ (show u4.cell? _ = some (.bool n3) from X0.out.cell (i := 9) rfl)
  have qX0_10 := @inh_cell _ _ _ (show u4.cell? _ = some (.bool o3) from X0.out.cell (i := 10) rfl)
  have qX0_11 := @inh_cell _ _ _ (show u4.cell? _ = some (.slice A3 l3 k3) from X0.out.cell (i := 11) rfl)
  have qX0_12 := @inh_cell _ _ _ (show u4.cell? _ = some (.bool n4) from X0.out.cell (i := 12) rfl)
  have qX0_13 := @inh_cell _ _ _ (show u4.cell? _ = some (.bool o4) from X0.out.cell (i := 13) rfl)
  have qX0_14 := @inh_cell _ _ _ (show u4.cell? _ = some (.slice A4 l4 k4) from X0.out.cell (i := 14) rfl)
  have qX0_15 := @inh_cell _ _ _ (show u4.cell? _ = some (.bool n5) from X0.out.cell (i := 15) rfl)
  have qX0_16 := @inh_cell _ _ _ (show u4.cell? _ = some (.bool o5) from X0.out.cell (i := 16) rfl)
  have qX0_17 := @inh_cell _ _ _ (show u4.cell? _ = some (.slice A5 l5 k5) from X0.out.cell (i := 17) rfl)
  have qX0_18 := @inh_cell _ _ _ (show u4.cell? _ = some (.bool n6) from X0.out.cell (i := 18) rfl)
  have qX0_19 := @inh_cell _ _ _ (show u4.cell? _ = some (.bool o6) from X0.out.cell (i := 19) rfl)
  have qX0_20 := @inh_cell _ _ _ (show u4.cell? _ = some (.slice A6 l6 k6) from X0.out.cell (i := 20) rfl)
  have HL : Hid (Below u4.heap.size u4 u4.drew) := (Below.refl _ _).drew
  refine wp_region_ghostD' 18 (fun k => match k with | 4 => some (gBig uu) | 9 => some (gBig vv) | 14 => some (gBig uv) | 15 => some (gCell u4.heap.size #[.bool false, .bool false, .slice none 0 0] 52) | 16 => some (gCell u4.heap.size #[.bool false, .bool false, .slice none 0 0] 52) | 17 => some (gCell u4.heap.size #[.bool false, .bool false, .slice none 0 0] 52) | _ => none) (fun _ => []) (by kernel_rfl) (by kernel_rfl) ?_; refine ex_listH ?_; apply Exists.intro; refine ex_listH ?_; apply Exists.intro; refine ex_listH ?_; apply Exists.intro; refine ex_listH ?_; apply Exists.intro; refine ex_listH ⟨undef, ?_⟩; refine ex_listH ?_; apply Exists.intro; refine ex_listH ?_; apply Exists.intro; refine ex_listH ?_; apply Exists.intro; refine ex_listH ?_; apply Exists.intro; refine ex_listH ⟨undef, ?_⟩; refine ex_listH ?_; apply Exists.intro; refine ex_listH ?_; apply Exists.intro; refine ex_listH ?_; apply Exists.intro; refine ex_listH ?_; apply Exists.intro; refine ex_listH ⟨undef, ?_⟩; refine ex_listH ⟨undef, ?_⟩; refine ex_listH ⟨undef, ?_⟩; refine ex_listH ⟨undef, ?_⟩; refine ⟨[], fun gg NN hN => ?_⟩; simp only [List.append_eq, List.cons_append, List.nil_append, List.take_succ_cons, List.take_zero, List.drop_succ_cons, List.drop_zero]; (repeat (refine lexH_quiet rfl ?_; go_big_quiet_step (first | exact rfl | (fail)); refine wpQuiet_nil ⟨?hd, ?_⟩; (case hd => (simp only [dstVh, Array.getD_eq_getD_getElem?, List.getElem?_toArray, List.getElem?_cons_zero, List.getElem?_cons_succ, Option.getD_some, List.getD_cons_zero, List.getD_cons_succ]; exact rfl)))); (refine lexH_ghost _ (by rfl) (by rfl) ?hex ?_; (case hex => (intro px; refine ghost_call (fn := 28) (by go_simp; rfl) ?_; exact mul_x _ _ _ _ _ _ h_uu (C3.out.below (inh_low HL.out px)) (C3.out.below (inh_low HL.out px)))); simp only [Act.put, List.setIfInBounds_toArray, List.set_cons_succ, List.set_cons_zero]); (repeat (refine lexH_quiet rfl ?_; go_big_quiet_step (first | exact rfl | (fail)); refine wpQuiet_nil ⟨?hd, ?_⟩; (case hd => (simp only [dstVh, Array.getD_eq_getD_getElem?, List.getElem?_toArray, List.getElem?_cons_zero, List.getElem?_cons_succ, Option.getD_some, List.getD_cons_zero, List.getD_cons_succ]; exact rfl)))); (refine lexH_ghost _ (by rfl) (by rfl) ?hex ?_; (case hex => (intro px; refine ghost_call (fn := 28) (by go_simp; rfl) ?_; exact mul_x _ _ _ _ _ _ h_vv (C4.out.below (inh_low HL.out px)) (C4.out.below (inh_low HL.out px)))); simp only [Act.put, List.setIfInBounds_toArray, List.set_cons_succ, List.set_cons_zero]); (repeat (refine lexH_quiet rfl ?_; go_big_quiet_step (first | exact rfl | (fail)); refine wpQuiet_nil ⟨?hd, ?_⟩; (case hd => (simp only [dstVh, Array.getD_eq_getD_getElem?, List.getElem?_toArray, List.getElem?_cons_zero, List.getElem?_cons_succ, Option.getD_some, List.getD_cons_zero, List.getD_cons_succ]; exact rfl)))); (refine lexH_ghost _ (by rfl) (by rfl) ?hex ?_; (case hex => (intro px; refine ghost_call (fn := 28) (by go_simp; rfl) ?_; exact mul_x _ _ _ _ _ _ h_uv (C3.out.below (inh_low HL.out px)) (C4.out.below (inh_low HL.out px)))); simp only [Act.put, List.setIfInBounds_toArray, List.set_cons_succ, List.set_cons_zero]); (refine lexH_ghost _ (by rfl) (by rfl) ?hex ?_; (case hex => (intro px; exact ghost_alloc (by have := px.low.size; simp at this; omega) (by first | (go_simp; done) | (go_simp; rfl)))); simp only [Act.put, List.setIfInBounds_toArray, List.set_cons_succ, List.set_cons_zero]); (refine lexH_ghost _ (by rfl) (by rfl) ?hex ?_; (case hex => (intro px; exact ghost_alloc (by have := px.low.size; simp at this; omega) (by first | (go_simp; done) | (go_simp; rfl)))); simp only [Act.put, List.setIfInBounds_toArray, List.set_cons_succ, List.set_cons_zero]); (refine lexH_ghost _ (by rfl) (by rfl) ?hex ?_; (case hex => (intro px; exact ghost_alloc (by have := px.low.size; simp at this; omega) (by first | (go_simp; done) | (go_simp; rfl)))); simp only [Act.put, List.setIfInBounds_toArray, List.set_cons_succ, List.set_cons_zero])
  refine lexH_nil ?_
  intro x5 hb' hh hd
  have hb : Below u4.heap.size u4 x5 := hb'
  clear hb' HL
  clear qX0_0 qX0_1 qX0_2 qX0_3 qX0_4 qX0_5 qX0_6 qX0_7 qX0_8 qX0_9 qX0_10 qX0_11 qX0_12 qX0_13 qX0_14 qX0_15 qX0_16 qX0_17 qX0_18 qX0_19 qX0_20
  replace X0 := Lib.hid (X0.out.keep hb)
  replace X1 := Lib.hid (X1.out.keep hb)
  replace X2 := Lib.hid (X2.out.keep hb)
  replace XD := Lib.hid (XD.out.keep hb)
  replace XE := Lib.hid (XE.out.keep hb)
  replace C0 := Lib.hid (C0.out.below hb)
  replace C1 := Lib.hid (C1.out.below hb)
  replace C2 := Lib.hid (C2.out.below hb)
  replace C3 := Lib.hid (C3.out.below hb)
  replace C4 := Lib.hid (C4.out.below hb)
  replace C5 := Lib.hid (C5.out.below hb)
  replace C6 := Lib.hid (C6.out.below hb)
  replace Cd := Lib.hid (Cd.out.below hb)
  replace Cdd := Lib.hid (Cdd.out.below hb)
  replace HB := Lib.hid (HB.out.trans (hb.mono HB.out.size))
  clear hb
  obtain ⟨nuu, ouu, Auu, luu, kuu, e4, huu⟩ := (show BigIs x5 (gg 4) uu from hh 4 _ (by decide) rfl).lettered
  have Cuu := Lib.hid huu
  rw [e4]
  clear huu e4
  obtain ⟨nvv, ovv, Avv, lvv, kvv, e9, hvv⟩ := (show BigIs x5 (gg 9) vv from hh 9 _ (by decide) rfl).lettered
  have Cvv := Lib.hid hvv
  rw [e9]
  clear hvv e9
  obtain ⟨nuv, ouv, Auv, luv, kuv, e14, huv⟩ := (show BigIs x5 (gg 14) uv from hh 14 _ (by decide) rfl).lettered
  have Cuv := Lib.hid huv
  rw [e14]
  clear huv e14
  obtain ⟨gXU, e15, l15, b15⟩ := hh 15 _ (by decide) rfl
  rw [e15]
  obtain ⟨gXV, e16, l16, b16⟩ := hh 16 _ (by decide) rfl
  rw [e16]
  obtain ⟨gXW, e17, l17, b17⟩ := hh 17 _ (by decide) rfl
  rw [e17]
  have ne_XU_XV : gXU ≠ gXV := hd 15 16 _ _ gXU gXV (by decide) (by decide) rfl rfl (by decide) (by rw [e15]; rfl) (by rw [e16]; rfl)
  have ne_XU_XW : gXU ≠ gXW := hd 15 17 _ _ gXU gXW (by decide) (by decide) rfl rfl (by decide) (by rw [e15]; rfl) (by rw [e17]; rfl)
  have ne_XV_XW : gXV ≠ gXW := hd 16 17 _ _ gXV gXW (by decide) (by decide) rfl rfl (by decide) (by rw [e16]; rfl) (by rw [e17]; rfl)
  have lt_X0_XU : w.heap.size < gXU := by omega
  have lt_X1_XU : w.heap.size + 1 < gXU := by omega
  have lt_X2_XU : w.heap.size + 1 + 1 < gXU := by omega
  have lt_XD_XU : gXD < gXU := by omega
  have lt_XE_XU : gXE < gXU := by omega
  have gw_XU : w.heap.size ≤ gXU := by omega
  have XU : Hid (Blk x5 gXU #[.bool false, .bool false, .slice none 0 0] 52) := b15
  clear b15 e15
  have lt_X0_XV : w.heap.size < gXV := by omega
  have lt_X1_XV : w.heap.size + 1 < gXV := by omega
  have lt_X2_XV : w.heap.size + 1 + 1 < gXV := by omega
  have lt_XD_XV : gXD < gXV := by omega
  have lt_XE_XV : gXE < gXV := by omega
  have gw_XV : w.heap.size ≤ gXV := by omega
  have XV : Hid (Blk x5 gXV #[.bool false, .bool false, .slice none 0 0] 52) := b16
  clear b16 e16
  have lt_X0_XW : w.heap.size < gXW := by omega
  have lt_X1_XW : w.heap.size + 1 < gXW := by omega
  have lt_X2_XW : w.heap.size + 1 + 1 < gXW := by omega
  have lt_XD_XW : gXD < gXW := by omega
  have lt_XE_XW : gXE < gXW := by omega
  have gw_XW : w.heap.size ≤ gXW := by omega
  have XW : Hid (Blk x5 gXW #[.bool false, .bool false, .slice none 0 0] 52) := b17
  clear b17 e17
  clear hh hd plX0 plX1 plX2 plXD plXE
  have qXU_0 := XU.out.cell (i := 0) (v := .bool false) rfl
  have qXU_1 := XU.out.cell (i := 1) (v := .bool false) rfl
  have qXU_2 := XU.out.cell (i := 2) (v := .slice none 0 0) rfl
  have rl_XU := XU.out.lt
  have qXV_0 := XV.out.cell (i := 0) (v := .bool false) rfl
  have qXV_1 := XV.out.cell (i := 1) (v := .bool false) rfl
  have qXV_2 := XV.out.cell (i := 2) (v := .slice none 0 0) rfl
  have rl_XV := XV.out.lt
  have qXW_0 := XW.out.cell (i := 0) (v := .bool false) rfl
  have qXW_1 := XW.out.cell (i := 1) (v := .bool false) rfl
  have qXW_2 := XW.out.cell (i := 2) (v := .slice none 0 0) rfl
  have rl_XW := XW.out.lt
  have fz_XU := XU.out.frozen
  have ft_XU := XU.out.fits 3 (by simp)
  have fz_XV := XV.out.frozen
  have ft_XV := XV.out.fits 3 (by simp)
  have fz_XW := XW.out.frozen
  have ft_XW := XW.out.fits 3 (by simp)
  have ns_0_1 := ne_XU_XV.symm
  have ns_0_2 := ne_XU_XW.symm
  have ns_1_2 := ne_XV_XW.symm
  go_wp2_with fail
  clear qXU_0 qXU_1 qXU_2 rl_XU qXV_0 qXV_1 qXV_2 rl_XV qXW_0 qXW_1 qXW_2 rl_XW fz_XU ft_XU fz_XV ft_XV fz_XW ft_XW
  obtain ⟨v6, hv⟩ : ∃ v, v = ((x5.setCell ⟨gXU, 0, none⟩ (.bool nuu)).setCell ⟨gXU, 1, none⟩ (.bool ouu)).setCell ⟨gXU, 2, none⟩ (.slice Auu luu kuu) := ⟨_, rfl⟩
  rw [← hv]
  have ho : OnlyAt (gXU) x5 v6 := by rw [hv]; exact OnlyAt.refl.set3 _ _ _
  have hn := hv
  replace C0 := Lib.hid (C0.out.only ho XU.out (big_no _ _ _ _ _))
  replace C1 := Lib.hid (C1.out.only ho XU.out (big_no _ _ _ _ _))
  replace C2 := Lib.hid (C2.out.only ho XU.out (big_no _ _ _ _ _))
  replace C3 := Lib.hid (C3.out.only ho XU.out (big_no _ _ _ _ _))
  replace C4 := Lib.hid (C4.out.only ho XU.out (big_no _ _ _ _ _))
  replace C5 := Lib.hid (C5.out.only ho XU.out (big_no _ _ _ _ _))
  replace C6 := Lib.hid (C6.out.only ho XU.out (big_no _ _ _ _ _))
  replace Cd := Lib.hid (Cd.out.only ho XU.out (big_no _ _ _ _ _))
  replace Cdd := Lib.hid (Cdd.out.only ho XU.out (big_no _ _ _ _ _))
  replace Cuu := Lib.hid (Cuu.out.only ho XU.out (big_no _ _ _ _ _))
  replace Cvv := Lib.hid (Cvv.out.only ho XU.out (big_no _ _ _ _ _))
  replace Cuv := Lib.hid (Cuv.out.only ho XU.out (big_no _ _ _ _ _))
  replace X0 := Lib.hid (ho.blk X0.out (by omega))
  replace X1 := Lib.hid (ho.blk X1.out (by omega))
  replace X2 := Lib.hid (ho.blk X2.out (by omega))
  replace XD := Lib.hid (ho.blk XD.out (by omega))
  replace XE := Lib.hid (ho.blk XE.out (by omega))
  replace XV := Lib.hid (ho.blk XV.out (by omega))
  replace XW := Lib.hid (ho.blk XW.out (by omega))
  replace HB := Lib.hid (OnlyAt.below ho HB.out (Nat.le_refl _) (by omega))
  replace XU : Hid (Blk v6 (gXU) #[.bool nuu, .bool ouu, .slice Auu luu kuu] 52) := by rw [hv]; exact XU.out.set3 _ _ _
  clear ho hn hv
  obtain ⟨v7, hv⟩ : ∃ v, v = ((v6.setCell ⟨gXV, 0, none⟩ (.bool nvv)).setCell ⟨gXV, 1, none⟩ (.bool ovv)).setCell ⟨gXV, 2, none⟩ (.slice Avv lvv kvv) := ⟨_, rfl⟩
  rw [← hv]
  have ho : OnlyAt (gXV) v6 v7 := by rw [hv]; exact OnlyAt.refl.set3 _ _ _
  have hn := hv
  replace C0 := Lib.hid (C0.out.only ho XV.out (big_no _ _ _ _ _))
  replace C1 := Lib.hid (C1.out.only ho XV.out (big_no _ _ _ _ _))
  replace C2 := Lib.hid (C2.out.only ho XV.out (big_no _ _ _ _ _))
  replace C3 := Lib.hid (C3.out.only ho XV.out (big_no _ _ _ _ _))
  replace C4 := Lib.hid (C4.out.only ho XV.out (big_no _ _ _ _ _))
  replace C5 := Lib.hid (C5.out.only ho XV.out (big_no _ _ _ _ _))
  replace C6 := Lib.hid (C6.out.only ho XV.out (big_no _ _ _ _ _))
  replace Cd := Lib.hid (Cd.out.only ho XV.out (big_no _ _ _ _ _))
  replace Cdd := Lib.hid (Cdd.out.only ho XV.out (big_no _ _ _ _ _))
  replace Cuu := Lib.hid (Cuu.out.only ho XV.out (big_no _ _ _ _ _))
  replace Cvv := Lib.hid (Cvv.out.only ho XV.out (big_no _ _ _ _ _))
  replace Cuv := Lib.hid (Cuv.out.only ho XV.out (big_no _ _ _ _ _))
  replace X0 := Lib.hid (ho.blk X0.out (by omega))
  replace X1 := Lib.hid (ho.blk X1.out (by omega))
  replace X2 := Lib.hid (ho.blk X2.out (by omega))
  replace XD := Lib.hid (ho.blk XD.out (by omega))
  replace XE := Lib.hid (ho.blk XE.out (by omega))
  replace XU := Lib.hid (ho.blk XU.out (by omega))
  replace XW := Lib.hid (ho.blk XW.out (by omega))
  replace HB := Lib.hid (OnlyAt.below ho HB.out (Nat.le_refl _) (by omega))
  replace XV : Hid (Blk v7 (gXV) #[.bool nvv, .bool ovv, .slice Avv lvv kvv] 52) := by rw [hv]; exact XV.out.set3 _ _ _
  clear ho hn hv
  obtain ⟨v8, hv⟩ : ∃ v, v = ((v7.setCell ⟨gXW, 0, none⟩ (.bool nuv)).setCell ⟨gXW, 1, none⟩ (.bool ouv)).setCell ⟨gXW, 2, none⟩ (.slice Auv luv kuv) := ⟨_, rfl⟩
  rw [← hv]
  have ho : OnlyAt (gXW) v7 v8 := by rw [hv]; exact OnlyAt.refl.set3 _ _ _
  have hn := hv
  replace C0 := Lib.hid (C0.out.only ho XW.out (big_no _ _ _ _ _))
  replace C1 := Lib.hid (C1.out.only ho XW.out (big_no _ _ _ _ _))
  replace C2 := Lib.hid (C2.out.only ho XW.out (big_no _ _ _ _ _))
  replace C3 := Lib.hid (C3.out.only ho XW.out (big_no _ _ _ _ _))
  replace C4 := Lib.hid (C4.out.only ho XW.out (big_no _ _ _ _ _))
  replace C5 := Lib.hid (C5.out.only ho XW.out (big_no _ _ _ _ _))
  replace C6 := Lib.hid (C6.out.only ho XW.out (big_no _ _ _ _ _))
  replace Cd := Lib.hid (Cd.out.only ho XW.out (big_no _ _ _ _ _))
  replace Cdd := Lib.hid (Cdd.out.only ho XW.out (big_no _ _ _ _ _))
  replace Cuu := Lib.hid (Cuu.out.only ho XW.out (big_no _ _ _ _ _))
  replace Cvv := Lib.hid (Cvv.out.only ho XW.out (big_no _ _ _ _ _))
  replace Cuv := Lib.hid (Cuv.out.only ho XW.out (big_no _ _ _ _ _))
  replace X0 := Lib.hid (ho.blk X0.out (by omega))
  replace X1 := Lib.hid (ho.blk X1.out (by omega))
  replace X2 := Lib.hid (ho.blk X2.out (by omega))
  replace XD := Lib.hid (ho.blk XD.out (by omega))
  replace XE := Lib.hid (ho.blk XE.out (by omega))
  replace XU := Lib.hid (ho.blk XU.out (by omega))
  replace XV := Lib.hid (ho.blk XV.out (by omega))
  replace HB := Lib.hid (OnlyAt.below ho HB.out (Nat.le_refl _) (by omega))
  replace XW : Hid (Blk v8 (gXW) #[.bool nuv, .bool ouv, .slice Auv luv kuv] 52) := by rw [hv]; exact XW.out.set3 _ _ _
  clear ho hn hv
  have plX0 := X0.out.lt
  have plX1 := X1.out.lt
  have plX2 := X2.out.lt
  have plXD := XD.out.lt
  have plXE := XE.out.lt
  have plXU := XU.out.lt
  have plXV := XV.out.lt
  have plXW := XW.out.lt
  have qX0_0 := @inh_cell _ _ _ (show v8.cell? _ = some (.bool n0) from X0.out.cell (i := 0) rfl)
  have qX0_1 := @inh_cell _ _ _ (show v8.cell? _ = some (.bool o0) from X0.out.cell (i := 1) rfl)
  have qX0_2 := @inh_cell _ _ _ (show v8.cell? _ = some (.slice A0 l0 k0) from X0.out.cell (i := 2) rfl)
  have qX0_3 := @inh_cell _ _ _ (show v8.cell? _ = some (.bool n1) from X0.out.cell (i := 3) rfl)
  have qX0_4 := @inh_cell _ _ _ (show v8.cell? _ = some (.bool o1) from X0.out.cell (i := 4) rfl)
  have qX0_5 := @inh_cell _ _ _ (show v8.cell? _ = some (.slice A1 l1 k1) from X0.out.cell (i := 5) rfl)
  have qX0_6 := @inh_cell _ _ _ (show v8.cell? _ = some (.bool n2) from X0.out.cell (i := 6) rfl)
  have qX0_7 := @inh_cell _ _ _ (show v8.cell? _ = some (.bool o2) from X0.out.cell (i := 7) rfl)
  have qX0_8 := @inh_cell _ _ _ (show v8.cell? _ = some (.slice A2 l2 k2) from X0.out.cell (i := 8) rfl)
  have qX0_9 := @inh_cell _ _ _ (show v8.cell? _ = some (.bool n3) from X0.out.cell (i := 9) rfl)
  have qX0_10 := @inh_cell _ _ _ (show v8.cell? _ = some (.bool o3) from X0.out.cell (i := 10) rfl)
  have qX0_11 := @inh_cell _ _ _ (show v8.cell? _ = some (.slice A3 l3 k3) from X0.out.cell (i := 11) rfl)
  have qX0_12 := @inh_cell _ _ _ (show v8.cell? _ = some (.bool n4) from X0.out.cell (i := 12) rfl)
  have qX0_13 := @inh_cell _ _ _ (show v8.cell? _ = some (.bool o4) from X0.out.cell (i := 13) rfl)
  have qX0_14 := @inh_cell _ _ _ (show v8.cell? _ = some (.slice A4 l4 k4) from X0.out.cell (i := 14) rfl)
  have qX0_15 := @inh_cell _ _ _ (show v8.cell? _ = some (.bool n5) from X0.out.cell (i := 15) rfl)
  have qX0_16 := @inh_cell _ _ _ (show v8.cell? _ = some (.bool o5) from X0.out.cell (i := 16) rfl)
  have qX0_17 := @inh_cell _ _ _ (show v8.cell? _ = some (.slice A5 l5 k5) from X0.out.cell (i := 17) rfl)
  have qX0_18 := @inh_cell _ _ _ (show v8.cell? _ = some (.bool n6) from X0.out.cell (i := 18) rfl)
  have qX0_19 := @inh_cell _ _ _ (show v8.cell? _ = some (.bool o6) from X0.out.cell (i := 19) rfl)
  have qX0_20 := @inh_cell _ _ _ (show v8.cell? _ = some (.slice A6 l6 k6) from X0.out.cell (i := 20) rfl)
  have qXD_0 := @inh_cell _ _ _ (show v8.cell? _ = some (.bool nd) from XD.out.cell (i := 0) rfl)
  have qXD_1 := @inh_cell _ _ _ (show v8.cell? _ = some (.bool od) from XD.out.cell (i := 1) rfl)
  have qXD_2 := @inh_cell _ _ _ (show v8.cell? _ = some (.slice Ad ld kd) from XD.out.cell (i := 2) rfl)
  have qXU_0 := @inh_cell _ _ _ (show v8.cell? _ = some (.bool nuu) from XU.out.cell (i := 0) rfl)
  have qXU_1 := @inh_cell _ _ _ (show v8.cell? _ = some (.bool ouu) from XU.out.cell (i := 1) rfl)
  have qXU_2 := @inh_cell _ _ _ (show v8.cell? _ = some (.slice Auu luu kuu) from XU.out.cell (i := 2) rfl)
  have qXV_0 := @inh_cell _ _ _ (show v8.cell? _ = some (.bool nvv) from XV.out.cell (i := 0) rfl)
  have qXV_1 := @inh_cell _ _ _ (show v8.cell? _ = some (.bool ovv) from XV.out.cell (i := 1) rfl)
  have qXV_2 := @inh_cell _ _ _ (show v8.cell? _ = some (.slice Avv lvv kvv) from XV.out.cell (i := 2) rfl)
  have qXW_0 := @inh_cell _ _ _ (show v8.cell? _ = some (.bool nuv) from XW.out.cell (i := 0) rfl)
  have qXW_1 := @inh_cell _ _ _ (show v8.cell? _ = some (.bool ouv) from XW.out.cell (i := 1) rfl)
  have qXW_2 := @inh_cell _ _ _ (show v8.cell? _ = some (.slice Auv luv kuv) from XW.out.cell (i := 2) rfl)
  have HL : Hid (Below v8.heap.size v8 v8.drew) := (Below.refl _ _).drew
  refine wp_region_ghost' 24 (fun k => match k with | 4 => some (gBig t1) | 6 => some (gBig t2) | 13 => some (gBig t3) | 14 => some (gBig (WI.of 2)) | 18 => some (gBig t4) | 19 => some (gBig t5) | 20 => some (gBig t6) | 21 => some (gBig t7) | 22 => some (gBig r) | 23 => some (gCell v8.heap.size #[.bool false, .bool false, .slice none 0 0] 52) | _ => none) (fun k => match k with | 6 => [4] | 19 => [14, 18] | 20 => [19] | 21 => [13, 20] | 22 => [6, 21] | _ => []) (by kernel_rfl) (by kernel_rfl) ?_; refine ex_listH ?_; apply Exists.intro; refine ex_listH ?_; apply Exists.intro; refine ex_listH ?_; apply Exists.intro; refine ex_listH ?_; apply Exists.intro; refine ex_listH ⟨undef, ?_⟩; refine ex_listH ?_; apply Exists.intro; refine ex_listH ⟨undef, ?_⟩; refine ex_listH ?_; apply Exists.intro; refine ex_listH ?_; apply Exists.intro; refine ex_listH ?_; apply Exists.intro; refine ex_listH ?_; apply Exists.intro; refine ex_listH ?_; apply Exists.intro; refine ex_listH ?_; apply Exists.intro; refine ex_listH ⟨undef, ?_⟩; refine ex_listH ⟨undef, ?_⟩; refine ex_listH ?_; apply Exists.intro; refine ex_listH ?_; apply Exists.intro; refine ex_listH ?_; apply Exists.intro; refine ex_listH ⟨undef, ?_⟩; refine ex_listH ⟨undef, ?_⟩; refine ex_listH ⟨undef, ?_⟩; refine ex_listH ⟨undef, ?_⟩; refine ex_listH ⟨undef, ?_⟩; refine ex_listH ⟨undef, ?_⟩; refine ⟨[], fun gg NN hN => ?_⟩; simp only [List.append_eq, List.cons_append, List.nil_append, List.take_succ_cons, List.take_zero, List.drop_succ_cons, List.drop_zero]; (repeat (refine lexH_quiet rfl ?_; go_big_quiet_step (first | exact rfl | (fail)); refine wpQuiet_nil ⟨?hd, ?_⟩; (case hd => (simp only [dstVh, Array.getD_eq_getD_getElem?, List.getElem?_toArray, List.getElem?_cons_zero, List.getElem?_cons_succ, Option.getD_some, List.getD_cons_zero, List.getD_cons_succ]; exact rfl)))); (refine lexH_ghost _ (by rfl) (by rfl) ?hex ?_; (case hex => (intro px; refine ghost_call (fn := 27) (by go_simp; rfl) ?_; exact sub_x _ _ _ _ _ _ h_t1 (C6.out.below (inh_low HL.out px)) (C5.out.below (inh_low HL.out px)))); simp only [Act.put, List.setIfInBounds_toArray, List.set_cons_succ, List.set_cons_zero]); (refine lexH_quiet rfl ?_; go_big_quiet_step (first | exact rfl | (fail)); refine wpQuiet_nil ⟨?hd, ?_⟩; (case hd => (simp only [dstVh, Array.getD_eq_getD_getElem?, List.getElem?_toArray, List.getElem?_cons_zero, List.getElem?_cons_succ, Option.getD_some, List.getD_cons_zero, List.getD_cons_succ]; exact rfl))); (refine lexH_ghost _ (by rfl) (by rfl) ?hex ?_; (case hex => (intro px; refine ghost_call (fn := 28) (by go_simp; rfl) ?_; exact mul_x _ _ _ _ _ _ h_t2 (px.has 4 (hN 6 4 (by simp)) _ rfl) (Cd.out.below (inh_low HL.out px)))); simp only [Act.put, List.setIfInBounds_toArray, List.set_cons_succ, List.set_cons_zero]); (repeat (refine lexH_quiet rfl ?_; go_big_quiet_step (first | exact rfl | (fail)); refine wpQuiet_nil ⟨?hd, ?_⟩; (case hd => (simp only [dstVh, Array.getD_eq_getD_getElem?, List.getElem?_toArray, List.getElem?_cons_zero, List.getElem?_cons_succ, Option.getD_some, List.getD_cons_zero, List.getD_cons_succ]; exact rfl)))); (refine lexH_ghost _ (by rfl) (by rfl) ?hex ?_; (case hex => (intro px; refine ghost_call (fn := 59) (by go_simp; rfl) ?_; exact rdot_x _ _ _ _ _ _ _ _ _ _ h_t3 (C2.out.below (inh_low HL.out px)) (Cuu.out.below (inh_low HL.out px)) (C0.out.below (inh_low HL.out px)) (Cvv.out.below (inh_low HL.out px)))); simp only [Act.put, List.setIfInBounds_toArray, List.set_cons_succ, List.set_cons_zero]); (refine lexH_ghost _ (by rfl) (by rfl) ?hex ?_; (case hex => (intro px; refine ghost_call (fn := 25) (by go_simp; rfl) ?_; exact rbig_r _ K2.out.1 K2.out.2 _)); simp only [Act.put, List.setIfInBounds_toArray, List.set_cons_succ, List.set_cons_zero]); (repeat (refine lexH_quiet rfl ?_; go_big_quiet_step (first | exact rfl | (fail)); refine wpQuiet_nil ⟨?hd, ?_⟩; (case hd => (simp only [dstVh, Array.getD_eq_getD_getElem?, List.getElem?_toArray, List.getElem?_cons_zero, List.getElem?_cons_succ, Option.getD_some, List.getD_cons_zero, List.getD_cons_succ]; exact rfl)))); (refine lexH_ghost _ (by rfl) (by rfl) ?hex ?_; (case hex => (intro px; refine ghost_call (fn := 28) (by go_simp; rfl) ?_; exact mul_x _ _ _ _ _ _ h_t4 (C1.out.below (inh_low HL.out px)) (Cuv.out.below (inh_low HL.out px)))); simp only [Act.put, List.setIfInBounds_toArray, List.set_cons_succ, List.set_cons_zero]); (refine lexH_ghost _ (by rfl) (by rfl) ?hex ?_; (case hex => (intro px; refine ghost_call (fn := 28) (by go_simp; rfl) ?_; exact mul_x _ _ _ _ _ _ h_t5 (px.has 14 (hN 19 14 (by simp)) _ rfl) (px.has 18 (hN 19 18 (by simp)) _ rfl))); simp only [Act.put, List.setIfInBounds_toArray, List.set_cons_succ, List.set_cons_zero]); (refine lexH_ghost _ (by rfl) (by rfl) ?hex ?_; (case hex => (intro px; refine ghost_call (fn := 60) (by go_simp; rfl) ?_; exact neg_x _ _ _ _ h_t6 (px.has 19 (hN 20 19 (by simp)) _ rfl))); simp only [Act.put, List.setIfInBounds_toArray, List.set_cons_succ, List.set_cons_zero]); (refine lexH_ghost _ (by rfl) (by rfl) ?hex ?_; (case hex => (intro px; refine ghost_call (fn := 43) (by go_simp; rfl) ?_; exact add_x _ _ _ _ _ _ h_t7 (px.has 13 (hN 21 13 (by simp)) _ rfl) (px.has 20 (hN 21 20 (by simp)) _ rfl))); simp only [Act.put, List.setIfInBounds_toArray, List.set_cons_succ, List.set_cons_zero]); (refine lexH_ghost _ (by rfl) (by rfl) ?hex ?_; (case hex => (intro px; refine ghost_call (fn := 43) (by go_simp; rfl) ?_; exact add_x _ _ _ _ _ _ h_r (px.has 6 (hN 22 6 (by simp)) _ rfl) (px.has 21 (hN 22 21 (by simp)) _ rfl))); simp only [Act.put, List.setIfInBounds_toArray, List.set_cons_succ, List.set_cons_zero]); (refine lexH_ghost _ (by rfl) (by rfl) ?hex ?_; (case hex => (intro px; exact ghost_alloc (by have := px.low.size; simp at this; omega) (by first | (go_simp; done) | (go_simp; rfl)))); simp only [Act.put, List.setIfInBounds_toArray, List.set_cons_succ, List.set_cons_zero])
  refine lexH_nil ?_
  intro x9 hb' hh
  have hb : Below v8.heap.size v8 x9 := hb'
  clear hb' HL
  clear qX0_0 qX0_1 qX0_2 qX0_3 qX0_4 qX0_5 qX0_6 qX0_7 qX0_8 qX0_9 qX0_10 qX0_11 qX0_12 qX0_13 qX0_14 qX0_15 qX0_16 qX0_17 qX0_18 qX0_19 qX0_20 qXD_0 qXD_1 qXD_2 qXU_0 qXU_1 qXU_2 qXV_0 qXV_1 qXV_2 qXW_0 qXW_1 qXW_2
  replace X0 := Lib.hid (X0.out.keep hb)
  replace X1 := Lib.hid (X1.out.keep hb)
  replace X2 := Lib.hid (X2.out.keep hb)
  replace XD := Lib.hid (XD.out.keep hb)
  replace XE := Lib.hid (XE.out.keep hb)
  replace XU := Lib.hid (XU.out.keep hb)
  replace XV := Lib.hid (XV.out.keep hb)
  replace XW := Lib.hid (XW.out.keep hb)
  replace C0 := Lib.hid (C0.out.below hb)
  replace C1 := Lib.hid (C1.out.below hb)
  replace C2 := Lib.hid (C2.out.below hb)
  replace C3 := Lib.hid (C3.out.below hb)
  replace C4 := Lib.hid (C4.out.below hb)
  replace C5 := Lib.hid (C5.out.below hb)
  replace C6 := Lib.hid (C6.out.below hb)
  replace Cd := Lib.hid (Cd.out.below hb)
  replace Cdd := Lib.hid (Cdd.out.below hb)
  replace Cuu := Lib.hid (Cuu.out.below hb)
  replace Cvv := Lib.hid (Cvv.out.below hb)
  replace Cuv := Lib.hid (Cuv.out.below hb)
  replace HB := Lib.hid (HB.out.trans (hb.mono HB.out.size))
  clear hb
  obtain ⟨nr, or, Ar, lr, kr, e22, hr⟩ := (show BigIs x9 (gg 22) r from hh 22 _ (by decide) rfl).lettered
  have Cr := Lib.hid hr
  rw [e22]
  clear hr e22
  obtain ⟨gXR, e23, l23, b23⟩ := hh 23 _ (by decide) rfl
  rw [e23]
  have lt_X0_XR : w.heap.size < gXR := by omega
  have lt_X1_XR : w.heap.size + 1 < gXR := by omega
  have lt_X2_XR : w.heap.size + 1 + 1 < gXR := by omega
  have lt_XD_XR : gXD < gXR := by omega
  have lt_XE_XR : gXE < gXR := by omega
  have lt_XU_XR : gXU < gXR := by omega
  have lt_XV_XR : gXV < gXR := by omega
  have lt_XW_XR : gXW < gXR := by omega
  have gw_XR : w.heap.size ≤ gXR := by omega
  have XR : Hid (Blk x9 gXR #[.bool false, .bool false, .slice none 0 0] 52) := b23
  clear b23 e23
  clear hh plX0 plX1 plX2 plXD plXE plXU plXV plXW
  have qXR_0 := XR.out.cell (i := 0) (v := .bool false) rfl
  have qXR_1 := XR.out.cell (i := 1) (v := .bool false) rfl
  have qXR_2 := XR.out.cell (i := 2) (v := .slice none 0 0) rfl
  have rl_XR := XR.out.lt
  have fz_XR := XR.out.frozen
  have ft_XR := XR.out.fits 3 (by simp)
  go_wp2_with fail
  clear qXR_0 qXR_1 qXR_2 rl_XR fz_XR ft_XR
  obtain ⟨v10, hv⟩ : ∃ v, v = ((x9.setCell ⟨gXR, 0, none⟩ (.bool nr)).setCell ⟨gXR, 1, none⟩ (.bool or)).setCell ⟨gXR, 2, none⟩ (.slice Ar lr kr) := ⟨_, rfl⟩
  rw [← hv]
  have ho : OnlyAt (gXR) x9 v10 := by rw [hv]; exact OnlyAt.refl.set3 _ _ _
  have hn := hv
  replace C0 := Lib.hid (C0.out.only ho XR.out (big_no _ _ _ _ _))
  replace C1 := Lib.hid (C1.out.only ho XR.out (big_no _ _ _ _ _))
  replace C2 := Lib.hid (C2.out.only ho XR.out (big_no _ _ _ _ _))
  replace C3 := Lib.hid (C3.out.only ho XR.out (big_no _ _ _ _ _))
  replace C4 := Lib.hid (C4.out.only ho XR.out (big_no _ _ _ _ _))
  replace C5 := Lib.hid (C5.out.only ho XR.out (big_no _ _ _ _ _))
  replace C6 := Lib.hid (C6.out.only ho XR.out (big_no _ _ _ _ _))
  replace Cd := Lib.hid (Cd.out.only ho XR.out (big_no _ _ _ _ _))
  replace Cdd := Lib.hid (Cdd.out.only ho XR.out (big_no _ _ _ _ _))
  replace Cuu := Lib.hid (Cuu.out.only ho XR.out (big_no _ _ _ _ _))
  replace Cvv := Lib.hid (Cvv.out.only ho XR.out (big_no _ _ _ _ _))
  replace Cuv := Lib.hid (Cuv.out.only ho XR.out (big_no _ _ _ _ _))
  replace Cr := Lib.hid (Cr.out.only ho XR.out (big_no _ _ _ _ _))
  replace X0 := Lib.hid (ho.blk X0.out (by omega))
  replace X1 := Lib.hid (ho.blk X1.out (by omega))
  replace X2 := Lib.hid (ho.blk X2.out (by omega))
  replace XD := Lib.hid (ho.blk XD.out (by omega))
  replace XE := Lib.hid (ho.blk XE.out (by omega))
  replace XU := Lib.hid (ho.blk XU.out (by omega))
  replace XV := Lib.hid (ho.blk XV.out (by omega))
  replace XW := Lib.hid (ho.blk XW.out (by omega))
  replace HB := Lib.hid (OnlyAt.below ho HB.out (Nat.le_refl _) (by omega))
  replace XR : Hid (Blk v10 (gXR) #[.bool nr, .bool or, .slice Ar lr kr] 52) := by rw [hv]; exact XR.out.set3 _ _ _
  clear ho hn hv
  have plX0 := X0.out.lt
  have plX1 := X1.out.lt
  have plX2 := X2.out.lt
  have plXD := XD.out.lt
  have plXE := XE.out.lt
  have plXU := XU.out.lt
  have plXV := XV.out.lt
  have plXW := XW.out.lt
  have plXR := XR.out.lt
  have qX0_0 := @inh_cell _ _ _ (show v10.cell? _ = some (.bool n0) from X0.out.cell (i := 0) rfl)
  have qX0_1 := @inh_cell _ _ _ (show v10.cell? _ = some (.bool o0) from X0.out.cell (i := 1) rfl)
  have qX0_2 := @inh_cell _ _ _ (show v10.cell? _ = some (.slice A0 l0 k0) from X0.out.cell (i := 2) rfl)
  have qX0_3 := @inh_cell _ _ _ (show v10.cell? _ = some (.bool n1) from X0.out.cell (i := 3) rfl)
  have qX0_4 := @inh_cell _ _ _ (show v10.cell? _ = some (.bool o1) from X0.out.cell (i := 4) rfl)
  have qX0_5 := @inh_cell _ _ _ (show v10.cell? _ = some (.slice A1 l1 k1) from X0.out.cell (i := 5) rfl)
  have qX0_6 := @inh_cell _ _ _ (show v10.cell? _ = some (.bool n2) from X0.out.cell (i := 6) rfl)
  have qX0_7 := @inh_cell _ _ _ (show v10.cell? _ = some (.bool o2) from X0.out.cell (i := 7) rfl)
  have qX0_8 := @inh_cell _ _ _ (show v10.cell? _ = some (.slice A2 l2 k2) from X0.out.cell (i := 8) rfl)
  have qX0_9 := @inh_cell _ _ _ (show v10.cell? _ = some (.bool n3) from X0.out.cell (i := 9) rfl)
  have qX0_10 := @inh_cell _ _ _ (show v10.cell? _ = some (.bool o3) from X0.out.cell (i := 10) rfl)
  have qX0_11 := @inh_cell _ _ _ (show v10.cell? _ = some (.slice A3 l3 k3) from X0.out.cell (i := 11) rfl)
  have qX0_12 := @inh_cell _ _ _ (show v10.cell? _ = some (.bool n4) from X0.out.cell (i := 12) rfl)
  have qX0_13 := @inh_cell _ _ _ (show v10.cell? _ = some (.bool o4) from X0.out.cell (i := 13) rfl)
  have qX0_14 := @inh_cell _ _ _ (show v10.cell? _ = some (.slice A4 l4 k4) from X0.out.cell (i := 14) rfl)
  have qX0_15 := @inh_cell _ _ _ (show v10.cell? _ = some (.bool n5) from X0.out.cell (i := 15) rfl)
  have qX0_16 := @inh_cell _ _ _ (show v10.cell? _ = some (.bool o5) from X0.out.cell (i := 16) rfl)
  have qX0_17 := @inh_cell _ _ _ (show v10.cell? _ = some (.slice A5 l5 k5) from X0.out.cell (i := 17) rfl)
  have qX0_18 := @inh_cell _ _ _ (show v10.cell? _ = some (.bool n6) from X0.out.cell (i := 18) rfl)
  have qX0_19 := @inh_cell _ _ _ (show v10.cell? _ = some (.bool o6) from X0.out.cell (i := 19) rfl)
  have qX0_20 := @inh_cell _ _ _ (show v10.cell? _ = some (.slice A6 l6 k6) from X0.out.cell (i := 20) rfl)
  have qXR_0 := @inh_cell _ _ _ (show v10.cell? _ = some (.bool nr) from XR.out.cell (i := 0) rfl)
  have qXR_1 := @inh_cell _ _ _ (show v10.cell? _ = some (.bool or) from XR.out.cell (i := 1) rfl)
  have qXR_2 := @inh_cell _ _ _ (show v10.cell? _ = some (.slice Ar lr kr) from XR.out.cell (i := 2) rfl)
  have HL : Hid (Below v10.heap.size v10 v10.drew) := (Below.refl _ _).drew
  refine wp_region_ghostD' 16 (fun k => match k with | 3 => some (gBig p) | 7 => some (gBig q) | 11 => some (gBig s0) | 12 => some (gBig s) | 13 => some (gCell v10.heap.size #[.bool false, .bool false, .slice none 0 0] 52) | 14 => some (gCell v10.heap.size #[.bool false, .bool false, .slice none 0 0] 52) | 15 => some (gCell v10.heap.size #[.bool false, .bool false, .slice none 0 0] 52) | _ => none) (fun k => match k with | 12 => [11] | _ => []) (by kernel_rfl) (by kernel_rfl) ?_; refine ex_listH ?_; apply Exists.intro; refine ex_listH ?_; apply Exists.intro; refine ex_listH ?_; apply Exists.intro; refine ex_listH ⟨undef, ?_⟩; refine ex_listH ?_; apply Exists.intro; refine ex_listH ?_; apply Exists.intro; refine ex_listH ?_; apply Exists.intro; refine ex_listH ⟨undef, ?_⟩; refine ex_listH ?_; apply Exists.intro; refine ex_listH ?_; apply Exists.intro; refine ex_listH ?_; apply Exists.intro; refine ex_listH ⟨undef, ?_⟩; refine ex_listH ⟨undef, ?_⟩; refine ex_listH ⟨undef, ?_⟩; refine ex_listH ⟨undef, ?_⟩; refine ex_listH ⟨undef, ?_⟩; refine ⟨[], fun gg NN hN => ?_⟩; simp only [List.append_eq, List.cons_append, List.nil_append, List.take_succ_cons, List.take_zero, List.drop_succ_cons, List.drop_zero]; (repeat (refine lexH_quiet rfl ?_; go_big_quiet_step (first | exact rfl | (fail)); refine wpQuiet_nil ⟨?hd, ?_⟩; (case hd => (simp only [dstVh, Array.getD_eq_getD_getElem?, List.getElem?_toArray, List.getElem?_cons_zero, List.getElem?_cons_succ, Option.getD_some, List.getD_cons_zero, List.getD_cons_succ]; exact rfl)))); (refine lexH_ghost _ (by rfl) (by rfl) ?hex ?_; (case hex => (intro px; refine ghost_call (fn := 28) (by go_simp; rfl) ?_; exact mul_x _ _ _ _ _ _ h_p (Cr.out.below (inh_low HL.out px)) (C2.out.below (inh_low HL.out px)))); simp only [Act.put, List.setIfInBounds_toArray, List.set_cons_succ, List.set_cons_zero]); (repeat (refine lexH_quiet rfl ?_; go_big_quiet_step (first | exact rfl | (fail)); refine wpQuiet_nil ⟨?hd, ?_⟩; (case hd => (simp only [dstVh, Array.getD_eq_getD_getElem?, List.getElem?_toArray, List.getElem?_cons_zero, List.getElem?_cons_succ, Option.getD_some, List.getD_cons_zero, List.getD_cons_succ]; exact rfl)))); (refine lexH_ghost _ (by rfl) (by rfl) ?hex ?_; (case hex => (intro px; refine ghost_call (fn := 28) (by go_simp; rfl) ?_; exact mul_x _ _ _ _ _ _ h_q (Cr.out.below (inh_low HL.out px)) (C0.out.below (inh_low HL.out px)))); simp only [Act.put, List.setIfInBounds_toArray, List.set_cons_succ, List.set_cons_zero]); (repeat (refine lexH_quiet rfl ?_; go_big_quiet_step (first | exact rfl | (fail)); refine wpQuiet_nil ⟨?hd, ?_⟩; (case hd => (simp only [dstVh, Array.getD_eq_getD_getElem?, List.getElem?_toArray, List.getElem?_cons_zero, List.getElem?_cons_succ, Option.getD_some, List.getD_cons_zero, List.getD_cons_succ]; exact rfl)))); (refine lexH_ghost _ (by rfl) (by rfl) ?hex ?_; (case hex => (intro px; refine ghost_call (fn := 28) (by go_simp; rfl) ?_; exact mul_x _ _ _ _ _ _ h_s0 (Cr.out.below (inh_low HL.out px)) (C1.out.below (inh_low HL.out px)))); simp only [Act.put, List.setIfInBounds_toArray, List.set_cons_succ, List.set_cons_zero]); (refine lexH_ghost _ (by rfl) (by rfl) ?hex ?_; (case hex => (intro px; refine ghost_call (fn := 60) (by go_simp; rfl) ?_; exact neg_x _ _ _ _ h_s (px.has 11 (hN 12 11 (by simp)) _ rfl))); simp only [Act.put, List.setIfInBounds_toArray, List.set_cons_succ, List.set_cons_zero]); (refine lexH_ghost _ (by rfl) (by rfl) ?hex ?_; (case hex => (intro px; exact ghost_alloc (by have := px.low.size; simp at this; omega) (by first | (go_simp; done) | (go_simp; rfl)))); simp only [Act.put, List.setIfInBounds_toArray, List.set_cons_succ, List.set_cons_zero]); (refine lexH_ghost _ (by rfl) (by rfl) ?hex ?_; (case hex => (intro px; exact ghost_alloc (by have := px.low.size; simp at this; omega) (by first | (go_simp; done) | (go_simp; rfl)))); simp only [Act.put, List.setIfInBounds_toArray, List.set_cons_succ, List.set_cons_zero]); (refine lexH_ghost _ (by rfl) (by rfl) ?hex ?_; (case hex => (intro px; exact ghost_alloc (by have := px.low.size; simp at this; omega) (by first | (go_simp; done) | (go_simp; rfl)))); simp only [Act.put, List.setIfInBounds_toArray, List.set_cons_succ, List.set_cons_zero])
  refine lexH_nil ?_
  intro x11 hb' hh hd
  have hb : Below v10.heap.size v10 x11 := hb'
  clear hb' HL
  clear qX0_0 qX0_1 qX0_2 qX0_3 qX0_4 qX0_5 qX0_6 qX0_7 qX0_8 qX0_9 qX0_10 qX0_11 qX0_12 qX0_13 qX0_14 qX0_15 qX0_16 qX0_17 qX0_18 qX0_19 qX0_20 qXR_0 qXR_1 qXR_2
  replace X0 := Lib.hid (X0.out.keep hb)
  replace X1 := Lib.hid (X1.out.keep hb)
  replace X2 := Lib.hid (X2.out.keep hb)
  replace XD := Lib.hid (XD.out.keep hb)
  replace XE := Lib.hid (XE.out.keep hb)
  replace XU := Lib.hid (XU.out.keep hb)
  replace XV := Lib.hid (XV.out.keep hb)
  replace XW := Lib.hid (XW.out.keep hb)
  replace XR := Lib.hid (XR.out.keep hb)
  replace C0 := Lib.hid (C0.out.below hb)
  replace C1 := Lib.hid (C1.out.below hb)
  replace C2 := Lib.hid (C2.out.below hb)
  replace C3 := Lib.hid (C3.out.below hb)
  replace C4 := Lib.hid (C4.out.below hb)
  replace C5 := Lib.hid (C5.out.below hb)
  replace C6 := Lib.hid (C6.out.below hb)
  replace Cd := Lib.hid (Cd.out.below hb)
  replace Cdd := Lib.hid (Cdd.out.below hb)
  replace Cuu := Lib.hid (Cuu.out.below hb)
  replace Cvv := Lib.hid (Cvv.out.below hb)
  replace Cuv := Lib.hid (Cuv.out.below hb)
  replace Cr := Lib.hid (Cr.out.below hb)
  replace HB := Lib.hid (HB.out.trans (hb.mono HB.out.size))
  clear hb
  obtain ⟨np, op, Ap, lp, kp, e3, hp⟩ := (show BigIs x11 (gg 3) p from hh 3 _ (by decide) rfl).lettered
  have Cp := Lib.hid hp
  rw [e3]
  clear hp e3
  obtain ⟨nq, oq, Aq, lq, kq, e7, hq⟩ := (show BigIs x11 (gg 7) q from hh 7 _ (by decide) rfl).lettered
  have Cq := Lib.hid hq
  rw [e7]
  clear hq e7
  obtain ⟨ns, os, As, ls, ks, e12, hs⟩ := (show BigIs x11 (gg 12) s from hh 12 _ (by decide) rfl).lettered
  have Cs := Lib.hid hs
  rw [e12]
  clear hs e12
  obtain ⟨gXP, e13, l13, b13⟩ := hh 13 _ (by decide) rfl
  rw [e13]
  obtain ⟨gXQ, e14, l14, b14⟩ := hh 14 _ (by decide) rfl
  rw [e14]
  obtain ⟨gXS, e15, l15, b15⟩ := hh 15 _ (by decide) rfl
  rw [e15]
  have ne_XP_XQ : gXP ≠ gXQ := hd 13 14 _ _ gXP gXQ (by decide) (by decide) rfl rfl (by decide) (by rw [e13]; rfl) (by rw [e14]; rfl)
  have ne_XP_XS : gXP ≠ gXS := hd 13 15 _ _ gXP gXS (by decide) (by decide) rfl rfl (by decide) (by rw [e13]; rfl) (by rw [e15]; rfl)
  have ne_XQ_XS : gXQ ≠ gXS := hd 14 15 _ _ gXQ gXS (by decide) (by decide) rfl rfl (by decide) (by rw [e14]; rfl) (by rw [e15]; rfl)
  have lt_X0_XP : w.heap.size < gXP := by omega
  have lt_X1_XP : w.heap.size + 1 < gXP := by omega
  have lt_X2_XP : w.heap.size + 1 + 1 < gXP := by omega
  have lt_XD_XP : gXD < gXP := by omega
  have lt_XE_XP : gXE < gXP := by omega
  have lt_XU_XP : gXU < gXP := by omega
  have lt_XV_XP : gXV < gXP := by omega
  have lt_XW_XP : gXW < gXP := by omega
  have lt_XR_XP : gXR < gXP := by omega
  have gw_XP : w.heap.size ≤ gXP := by omega
  have XP : Hid (Blk x11 gXP #[.bool false, .bool false, .slice none 0 0] 52) := b13
  clear b13 e13
  have lt_X0_XQ : w.heap.size < gXQ := by omega
  have lt_X1_XQ : w.heap.size + 1 < gXQ := by omega
  have lt_X2_XQ : w.heap.size + 1 + 1 < gXQ := by omega
  have lt_XD_XQ : gXD < gXQ := by omega
  have lt_XE_XQ : gXE < gXQ := by omega
  have lt_XU_XQ : gXU < gXQ := by omega
  have lt_XV_XQ : gXV < gXQ := by omega
  have lt_XW_XQ : gXW < gXQ := by omega
  have lt_XR_XQ : gXR < gXQ := by omega
  have gw_XQ : w.heap.size ≤ gXQ := by omega
  have XQ : Hid (Blk x11 gXQ #[.bool false, .bool false, .slice none 0 0] 52) := b14
  clear b14 e14
  have lt_X0_XS : w.heap.size < gXS := by omega
  have lt_X1_XS : w.heap.size + 1 < gXS := by omega
  have lt_X2_XS : w.heap.size + 1 + 1 < gXS := by omega
  have lt_XD_XS : gXD < gXS := by omega
  have lt_XE_XS : gXE < gXS := by omega
  have lt_XU_XS : gXU < gXS := by omega
  have lt_XV_XS : gXV < gXS := by omega
  have lt_XW_XS : gXW < gXS := by omega
  have lt_XR_XS : gXR < gXS := by omega
  have gw_XS : w.heap.size ≤ gXS := by omega
  have XS : Hid (Blk x11 gXS #[.bool false, .bool false, .slice none 0 0] 52) := b15
  clear b15 e15
  clear hh hd plX0 plX1 plX2 plXD plXE plXU plXV plXW plXR
  have qXP_0 := XP.out.cell (i := 0) (v := .bool false) rfl
  have qXP_1 := XP.out.cell (i := 1) (v := .bool false) rfl
  have qXP_2 := XP.out.cell (i := 2) (v := .slice none 0 0) rfl
  have rl_XP := XP.out.lt
  have qXQ_0 := XQ.out.cell (i := 0) (v := .bool false) rfl
  have qXQ_1 := XQ.out.cell (i := 1) (v := .bool false) rfl
  have qXQ_2 := XQ.out.cell (i := 2) (v := .slice none 0 0) rfl
  have rl_XQ := XQ.out.lt
  have qXS_0 := XS.out.cell (i := 0) (v := .bool false) rfl
  have qXS_1 := XS.out.cell (i := 1) (v := .bool false) rfl
  have qXS_2 := XS.out.cell (i := 2) (v := .slice none 0 0) rfl
  have rl_XS := XS.out.lt
  have fz_XP := XP.out.frozen
  have ft_XP := XP.out.fits 3 (by simp)
  have fz_XQ := XQ.out.frozen
  have ft_XQ := XQ.out.fits 3 (by simp)
  have fz_XS := XS.out.frozen
  have ft_XS := XS.out.fits 3 (by simp)
  have ns_0_1 := ne_XP_XQ.symm
  have ns_0_2 := ne_XP_XS.symm
  have ns_1_2 := ne_XQ_XS.symm
  go_wp2_with fail
  clear qXP_0 qXP_1 qXP_2 rl_XP qXQ_0 qXQ_1 qXQ_2 rl_XQ qXS_0 qXS_1 qXS_2 rl_XS fz_XP ft_XP fz_XQ ft_XQ fz_XS ft_XS
  obtain ⟨v12, hv⟩ : ∃ v, v = ((x11.setCell ⟨gXP, 0, none⟩ (.bool np)).setCell ⟨gXP, 1, none⟩ (.bool op)).setCell ⟨gXP, 2, none⟩ (.slice Ap lp kp) := ⟨_, rfl⟩
  rw [← hv]
  have ho : OnlyAt (gXP) x11 v12 := by rw [hv]; exact OnlyAt.refl.set3 _ _ _
  have hn := hv
  replace C0 := Lib.hid (C0.out.only ho XP.out (big_no _ _ _ _ _))
  replace C1 := Lib.hid (C1.out.only ho XP.out (big_no _ _ _ _ _))
  replace C2 := Lib.hid (C2.out.only ho XP.out (big_no _ _ _ _ _))
  replace C3 := Lib.hid (C3.out.only ho XP.out (big_no _ _ _ _ _))
  replace C4 := Lib.hid (C4.out.only ho XP.out (big_no _ _ _ _ _))
  replace C5 := Lib.hid (C5.out.only ho XP.out (big_no _ _ _ _ _))
  replace C6 := Lib.hid (C6.out.only ho XP.out (big_no _ _ _ _ _))
  replace Cd := Lib.hid (Cd.out.only ho XP.out (big_no _ _ _ _ _))
  replace Cdd := Lib.hid (Cdd.out.only ho XP.out (big_no _ _ _ _ _))
  replace Cuu := Lib.hid (Cuu.out.only ho XP.out (big_no _ _ _ _ _))
  replace Cvv := Lib.hid (Cvv.out.only ho XP.out (big_no _ _ _ _ _))
  replace Cuv := Lib.hid (Cuv.out.only ho XP.out (big_no _ _ _ _ _))
  replace Cr := Lib.hid (Cr.out.only ho XP.out (big_no _ _ _ _ _))
  replace Cp := Lib.hid (Cp.out.only ho XP.out (big_no _ _ _ _ _))
  replace Cq := Lib.hid (Cq.out.only ho XP.out (big_no _ _ _ _ _))
  replace Cs := Lib.hid (Cs.out.only ho XP.out (big_no _ _ _ _ _))
  replace X0 := Lib.hid (ho.blk X0.out (by omega))
  replace X1 := Lib.hid (ho.blk X1.out (by omega))
  replace X2 := Lib.hid (ho.blk X2.out (by omega))
  replace XD := Lib.hid (ho.blk XD.out (by omega))
  replace XE := Lib.hid (ho.blk XE.out (by omega))
  replace XU := Lib.hid (ho.blk XU.out (by omega))
  replace XV := Lib.hid (ho.blk XV.out (by omega))
  replace XW := Lib.hid (ho.blk XW.out (by omega))
  replace XR := Lib.hid (ho.blk XR.out (by omega))
  replace XQ := Lib.hid (ho.blk XQ.out (by omega))
  replace XS := Lib.hid (ho.blk XS.out (by omega))
  replace HB := Lib.hid (OnlyAt.below ho HB.out (Nat.le_refl _) (by omega))
  replace XP : Hid (Blk v12 (gXP) #[.bool np, .bool op, .slice Ap lp kp] 52) := by rw [hv]; exact XP.out.set3 _ _ _
  clear ho hn hv
  obtain ⟨v13, hv⟩ : ∃ v, v = ((v12.setCell ⟨gXQ, 0, none⟩ (.bool nq)).setCell ⟨gXQ, 1, none⟩ (.bool oq)).setCell ⟨gXQ, 2, none⟩ (.slice Aq lq kq) := ⟨_, rfl⟩
  rw [← hv]
  have ho : OnlyAt (gXQ) v12 v13 := by rw [hv]; exact OnlyAt.refl.set3 _ _ _
  have hn := hv
  replace C0 := Lib.hid (C0.out.only ho XQ.out (big_no _ _ _ _ _))
  replace C1 := Lib.hid (C1.out.only ho XQ.out (big_no _ _ _ _ _))
  replace C2 := Lib.hid (C2.out.only ho XQ.out (big_no _ _ _ _ _))
  replace C3 := Lib.hid (C3.out.only ho XQ.out (big_no _ _ _ _ _))
  replace C4 := Lib.hid (C4.out.only ho XQ.out (big_no _ _ _ _ _))
  replace C5 := Lib.hid (C5.out.only ho XQ.out (big_no _ _ _ _ _))
  replace C6 := Lib.hid (C6.out.only ho XQ.out (big_no _ _ _ _ _))
  replace Cd := Lib.hid (Cd.out.only ho XQ.out (big_no _ _ _ _ _))
  replace Cdd := Lib.hid (Cdd.out.only ho XQ.out (big_no _ _ _ _ _))
  replace Cuu := Lib.hid (Cuu.out.only ho XQ.out (big_no _ _ _ _ _))
  replace Cvv := Lib.hid (Cvv.out.only ho XQ.out (big_no _ _ _ _ _))
  replace Cuv := Lib.hid (Cuv.out.only ho XQ.out (big_no _ _ _ _ _))
  replace Cr := Lib.hid (Cr.out.only ho XQ.out (big_no _ _ _ _ _))
  replace Cp := Lib.hid (Cp.out.only ho XQ.out (big_no _ _ _ _ _))
  replace Cq := Lib.hid (Cq.out.only ho XQ.out (big_no _ _ _ _ _))
  replace Cs := Lib.hid (Cs.out.only ho XQ.out (big_no _ _ _ _ _))
  replace X0 := Lib.hid (ho.blk X0.out (by omega))
  replace X1 := Lib.hid (ho.blk X1.out (by omega))
  replace X2 := Lib.hid (ho.blk X2.out (by omega))
  replace XD := Lib.hid (ho.blk XD.out (by omega))
  replace XE := Lib.hid (ho.blk XE.out (by omega))
  replace XU := Lib.hid (ho.blk XU.out (by omega))
  replace XV := Lib.hid (ho.blk XV.out (by omega))
  replace XW := Lib.hid (ho.blk XW.out (by omega))
  replace XR := Lib.hid (ho.blk XR.out (by omega))
  replace XP := Lib.hid (ho.blk XP.out (by omega))
  replace XS := Lib.hid (ho.blk XS.out (by omega))
  replace HB := Lib.hid (OnlyAt.below ho HB.out (Nat.le_refl _) (by omega))
  replace XQ : Hid (Blk v13 (gXQ) #[.bool nq, .bool oq, .slice Aq lq kq] 52) := by rw [hv]; exact XQ.out.set3 _ _ _
  clear ho hn hv
  obtain ⟨v14, hv⟩ : ∃ v, v = ((v13.setCell ⟨gXS, 0, none⟩ (.bool ns)).setCell ⟨gXS, 1, none⟩ (.bool os)).setCell ⟨gXS, 2, none⟩ (.slice As ls ks) := ⟨_, rfl⟩
  rw [← hv]
  have ho : OnlyAt (gXS) v13 v14 := by rw [hv]; exact OnlyAt.refl.set3 _ _ _
  have hn := hv
  replace C0 := Lib.hid (C0.out.only ho XS.out (big_no _ _ _ _ _))
  replace C1 := Lib.hid (C1.out.only ho XS.out (big_no _ _ _ _ _))
  replace C2 := Lib.hid (C2.out.only ho XS.out (big_no _ _ _ _ _))
  replace C3 := Lib.hid (C3.out.only ho XS.out (big_no _ _ _ _ _))
  replace C4 := Lib.hid (C4.out.only ho XS.out (big_no _ _ _ _ _))
  replace C5 := Lib.hid (C5.out.only ho XS.out (big_no _ _ _ _ _))
  replace C6 := Lib.hid (C6.out.only ho XS.out (big_no _ _ _ _ _))
  replace Cd := Lib.hid (Cd.out.only ho XS.out (big_no _ _ _ _ _))
  replace Cdd := Lib.hid (Cdd.out.only ho XS.out (big_no _ _ _ _ _))
  replace Cuu := Lib.hid (Cuu.out.only ho XS.out (big_no _ _ _ _ _))
  replace Cvv := Lib.hid (Cvv.out.only ho XS.out (big_no _ _ _ _ _))
  replace Cuv := Lib.hid (Cuv.out.only ho XS.out (big_no _ _ _ _ _))
  replace Cr := Lib.hid (Cr.out.only ho XS.out (big_no _ _ _ _ _))
  replace Cp := Lib.hid (Cp.out.only ho XS.out (big_no _ _ _ _ _))
  replace Cq := Lib.hid (Cq.out.only ho XS.out (big_no _ _ _ _ _))
  replace Cs := Lib.hid (Cs.out.only ho XS.out (big_no _ _ _ _ _))
  replace X0 := Lib.hid (ho.blk X0.out (by omega))
  replace X1 := Lib.hid (ho.blk X1.out (by omega))
  replace X2 := Lib.hid (ho.blk X2.out (by omega))
  replace XD := Lib.hid (ho.blk XD.out (by omega))
  replace XE := Lib.hid (ho.blk XE.out (by omega))
  replace XU := Lib.hid (ho.blk XU.out (by omega))
  replace XV := Lib.hid (ho.blk XV.out (by omega))
  replace XW := Lib.hid (ho.blk XW.out (by omega))
  replace XR := Lib.hid (ho.blk XR.out (by omega))
  replace XP := Lib.hid (ho.blk XP.out (by omega))
  replace XQ := Lib.hid (ho.blk XQ.out (by omega))
  replace HB := Lib.hid (OnlyAt.below ho HB.out (Nat.le_refl _) (by omega))
  replace XS : Hid (Blk v14 (gXS) #[.bool ns, .bool os, .slice As ls ks] 52) := by rw [hv]; exact XS.out.set3 _ _ _
  clear ho hn hv
  have plX0 := X0.out.lt
  have plX1 := X1.out.lt
  have plX2 := X2.out.lt
  have plXD := XD.out.lt
  have plXE := XE.out.lt
  have plXU := XU.out.lt
  have plXV := XV.out.lt
  have plXW := XW.out.lt
  have plXR := XR.out.lt
  have plXP := XP.out.lt
  have plXQ := XQ.out.lt
  have plXS := XS.out.lt
  have qX0_0 := @inh_cell _ _ _ (show v14.cell? _ = some (.bool n0) from X0.out.cell (i := 0) rfl)
  have qX0_1 := @inh_cell _ _ _ (show v14.cell? _ = some (.bool o0) from X0.out.cell (i := 1) rfl)
  have qX0_2 := @inh_cell _ _ _ (show v14.cell? _ = some (.slice A0 l0 k0) from X0.out.cell (i := 2) rfl)
  have qX0_3 := @inh_cell _ _ _ (show v14.cell? _ = some (.bool n1) from X0.out.cell (i := 3) rfl)
  have qX0_4 := @inh_cell _ _ _ (show v14.cell? _ = some (.bool o1) from X0.out.cell (i := 4) rfl)
  have qX0_5 := @inh_cell _ _ _ (show v14.cell? _ = some (.slice A1 l1 k1) from X0.out.cell (i := 5) rfl)
  have qX0_6 := @inh_cell _ _ _ (show v14.cell? _ = some (.bool n2) from X0.out.cell (i := 6) rfl)
  have qX0_7 := @inh_cell _ _ _ (show v14.cell? _ = some (.bool o2) from X0.out.cell (i := 7) rfl)
  have qX0_8 := @inh_cell _ _ _ (show v14.cell? _ = some (.slice A2 l2 k2) from X0.out.cell (i := 8) rfl)
  have qX0_9 := @inh_cell _ _ _ (show v14.cell? _ = some (.bool n3) from X0.out.cell (i := 9) rfl)
  have qX0_10 := @inh_cell _ _ _ (show v14.cell? _ = some (.bool o3) from X0.out.cell (i := 10) rfl)
  have qX0_11 := @inh_cell _ _ _ (show v14.cell? _ = some (.slice A3 l3 k3) from X0.out.cell (i := 11) rfl)
  have qX0_12 := @inh_cell _ _ _ (show v14.cell? _ = some (.bool n4) from X0.out.cell (i := 12) rfl)
  have qX0_13 := @inh_cell _ _ _ (show v14.cell? _ = some (.bool o4) from X0.out.cell (i := 13) rfl)
  have qX0_14 := @inh_cell _ _ _ (show v14.cell? _ = some (.slice A4 l4 k4) from X0.out.cell (i := 14) rfl)
  have qX0_15 := @inh_cell _ _ _ (show v14.cell? _ = some (.bool n5) from X0.out.cell (i := 15) rfl)
  have qX0_16 := @inh_cell _ _ _ (show v14.cell? _ = some (.bool o5) from X0.out.cell (i := 16) rfl)
  have qX0_17 := @inh_cell _ _ _ (show v14.cell? _ = some (.slice A5 l5 k5) from X0.out.cell (i := 17) rfl)
  have qX0_18 := @inh_cell _ _ _ (show v14.cell? _ = some (.bool n6) from X0.out.cell (i := 18) rfl)
  have qX0_19 := @inh_cell _ _ _ (show v14.cell? _ = some (.bool o6) from X0.out.cell (i := 19) rfl)
  have qX0_20 := @inh_cell _ _ _ (show v14.cell? _ = some (.slice A6 l6 k6) from X0.out.cell (i := 20) rfl)
  have HL : Hid (Below v14.heap.size v14 v14.drew) := (Below.refl _ _).drew
  refine wp_region_ghostD' 24 (fun k => match k with | 4 => some (gBig a1) | 9 => some (gBig a2) | 10 => some (gBig ex) | 15 => some (gBig b1) | 20 => some (gBig b2) | 21 => some (gBig ey) | 22 => some (gCell v14.heap.size #[.bool false, .bool false, .slice none 0 0] 52) | 23 => some (gCell v14.heap.size #[.bool false, .bool false, .slice none 0 0] 52) | _ => none) (fun k => match k with | 10 => [4, 9] | 21 => [15, 20] | _ => []) (by kernel_rfl) (by kernel_rfl) ?_; refine ex_listH ?_; apply Exists.intro; refine ex_listH ?_; apply Exists.intro; refine ex_listH ?_; apply Exists.intro; refine ex_listH ?_; apply Exists.intro; refine ex_listH ⟨undef, ?_⟩; refine ex_listH ?_; apply Exists.intro; refine ex_listH ?_; apply Exists.intro; refine ex_listH ?_; apply Exists.intro; refine ex_listH ?_; apply Exists.intro; refine ex_listH ⟨undef, ?_⟩; refine ex_listH ⟨undef, ?_⟩; refine ex_listH ?_; apply Exists.intro; refine ex_listH ?_; apply Exists.intro; refine ex_listH ?_; apply Exists.intro; refine ex_listH ?_; apply Exists.intro; refine ex_listH ⟨undef, ?_⟩; refine ex_listH ?_; apply Exists.intro; refine ex_listH ?_; apply Exists.intro; refine ex_listH ?_; apply Exists.intro; refine ex_listH ?_; apply Exists.intro; refine ex_listH ⟨undef, ?_⟩; refine ex_listH ⟨undef, ?_⟩; refine ex_listH ⟨undef, ?_⟩; refine ex_listH ⟨undef, ?_⟩; refine ⟨[], fun gg NN hN => ?_⟩; simp only [List.append_eq, List.cons_append, List.nil_append, List.take_succ_cons, List.take_zero, List.drop_succ_cons, List.drop_zero]; (repeat (refine lexH_quiet rfl ?_; go_big_quiet_step (first | exact rfl | (fail)); refine wpQuiet_nil ⟨?hd, ?_⟩; (case hd => (simp only [dstVh, Array.getD_eq_getD_getElem?, List.getElem?_toArray, List.getElem?_cons_zero, List.getElem?_cons_succ, Option.getD_some, List.getD_cons_zero, List.getD_cons_succ]; exact rfl)))); (refine lexH_ghost _ (by rfl) (by rfl) ?hex ?_; (case hex => (intro px; refine ghost_call (fn := 28) (by go_simp; rfl) ?_; exact mul_x _ _ _ _ _ _ h_a1 (C2.out.below (inh_low HL.out px)) (C3.out.below (inh_low HL.out px)))); simp only [Act.put, List.setIfInBounds_toArray, List.set_cons_succ, List.set_cons_zero]); (repeat (refine lexH_quiet rfl ?_; go_big_quiet_step (first | exact rfl | (fail)); refine wpQuiet_nil ⟨?hd, ?_⟩; (case hd => (simp only [dstVh, Array.getD_eq_getD_getElem?, List.getElem?_toArray, List.getElem?_cons_zero, List.getElem?_cons_succ, Option.getD_some, List.getD_cons_zero, List.getD_cons_succ]; exact rfl)))); (refine lexH_ghost _ (by rfl) (by rfl) ?hex ?_; (case hex => (intro px; refine ghost_call (fn := 28) (by go_simp; rfl) ?_; exact mul_x _ _ _ _ _ _ h_a2 (C1.out.below (inh_low HL.out px)) (C4.out.below (inh_low HL.out px)))); simp only [Act.put, List.setIfInBounds_toArray, List.set_cons_succ, List.set_cons_zero]); (refine lexH_ghost _ (by rfl) (by rfl) ?hex ?_; (case hex => (intro px; refine ghost_call (fn := 27) (by go_simp; rfl) ?_; exact sub_x _ _ _ _ _ _ h_ex (px.has 4 (hN 10 4 (by simp)) _ rfl) (px.has 9 (hN 10 9 (by simp)) _ rfl))); simp only [Act.put, List.setIfInBounds_toArray, List.set_cons_succ, List.set_cons_zero]); (repeat (refine lexH_quiet rfl ?_; go_big_quiet_step (first | exact rfl | (fail)); refine wpQuiet_nil ⟨?hd, ?_⟩; (case hd => (simp only [dstVh, Array.getD_eq_getD_getElem?, List.getElem?_toArray, List.getElem?_cons_zero, List.getElem?_cons_succ, Option.getD_some, List.getD_cons_zero, List.getD_cons_succ]; exact rfl)))); (refine lexH_ghost _ (by rfl) (by rfl) ?hex ?_; (case hex => (intro px; refine ghost_call (fn := 28) (by go_simp; rfl) ?_; exact mul_x _ _ _ _ _ _ h_b1 (C0.out.below (inh_low HL.out px)) (C4.out.below (inh_low HL.out px)))); simp only [Act.put, List.setIfInBounds_toArray, List.set_cons_succ, List.set_cons_zero]); (repeat (refine lexH_quiet rfl ?_; go_big_quiet_step (first | exact rfl | (fail)); refine wpQuiet_nil ⟨?hd, ?_⟩; (case hd => (simp only [dstVh, Array.getD_eq_getD_getElem?, List.getElem?_toArray, List.getElem?_cons_zero, List.getElem?_cons_succ, Option.getD_some, List.getD_cons_zero, List.getD_cons_succ]; exact rfl)))); (refine lexH_ghost _ (by rfl) (by rfl) ?hex ?_; (case hex => (intro px; refine ghost_call (fn := 28) (by go_simp; rfl) ?_; exact mul_x _ _ _ _ _ _ h_b2 (C1.out.below (inh_low HL.out px)) (C3.out.below (inh_low HL.out px)))); simp only [Act.put, List.setIfInBounds_toArray, List.set_cons_succ, List.set_cons_zero]); (refine lexH_ghost _ (by rfl) (by rfl) ?hex ?_; (case hex => (intro px; refine ghost_call (fn := 27) (by go_simp; rfl) ?_; exact sub_x _ _ _ _ _ _ h_ey (px.has 15 (hN 21 15 (by simp)) _ rfl) (px.has 20 (hN 21 20 (by simp)) _ rfl))); simp only [Act.put, List.setIfInBounds_toArray, List.set_cons_succ, List.set_cons_zero]); (refine lexH_ghost _ (by rfl) (by rfl) ?hex ?_; (case hex => (intro px; exact ghost_alloc (by have := px.low.size; simp at this; omega) (by first | (go_simp; done) | (go_simp; rfl)))); simp only [Act.put, List.setIfInBounds_toArray, List.set_cons_succ, List.set_cons_zero]); (refine lexH_ghost _ (by rfl) (by rfl) ?hex ?_; (case hex => (intro px; exact ghost_alloc (by have := px.low.size; simp at this; omega) (by first | (go_simp; done) | (go_simp; rfl)))); simp only [Act.put, List.setIfInBounds_toArray, List.set_cons_succ, List.set_cons_zero])
  refine lexH_nil ?_
  intro x15 hb' hh hd
  have hb : Below v14.heap.size v14 x15 := hb'
  clear hb' HL
  clear qX0_0 qX0_1 qX0_2 qX0_3 qX0_4 qX0_5 qX0_6 qX0_7 qX0_8 qX0_9 qX0_10 qX0_11 qX0_12 qX0_13 qX0_14 qX0_15 qX0_16 qX0_17 qX0_18 qX0_19 qX0_20
  replace X0 := Lib.hid (X0.out.keep hb)
  replace X1 := Lib.hid (X1.out.keep hb)
  replace X2 := Lib.hid (X2.out.keep hb)
  replace XD := Lib.hid (XD.out.keep hb)
  replace XE := Lib.hid (XE.out.keep hb)
  replace XU := Lib.hid (XU.out.keep hb)
  replace XV := Lib.hid (XV.out.keep hb)
  replace XW := Lib.hid (XW.out.keep hb)
  replace XR := Lib.hid (XR.out.keep hb)
  replace XP := Lib.hid (XP.out.keep hb)
  replace XQ := Lib.hid (XQ.out.keep hb)
  replace XS := Lib.hid (XS.out.keep hb)
  replace C0 := Lib.hid (C0.out.below hb)
  replace C1 := Lib.hid (C1.out.below hb)
  replace C2 := Lib.hid (C2.out.below hb)
  replace C3 := Lib.hid (C3.out.below hb)
  replace C4 := Lib.hid (C4.out.below hb)
  replace C5 := Lib.hid (C5.out.below hb)
  replace C6 := Lib.hid (C6.out.below hb)
  replace Cd := Lib.hid (Cd.out.below hb)
  replace Cdd := Lib.hid (Cdd.out.below hb)
  replace Cuu := Lib.hid (Cuu.out.below hb)
  replace Cvv := Lib.hid (Cvv.out.below hb)
  replace Cuv := Lib.hid (Cuv.out.below hb)
  replace Cr := Lib.hid (Cr.out.below hb)
  replace Cp := Lib.hid (Cp.out.below hb)
  replace Cq := Lib.hid (Cq.out.below hb)
  replace Cs := Lib.hid (Cs.out.below hb)
  replace HB := Lib.hid (HB.out.trans (hb.mono HB.out.size))
  clear hb
  obtain ⟨nex, oex, Aex, lex, kex, e10, hex⟩ := (show BigIs x15 (gg 10) ex from hh 10 _ (by decide) rfl).lettered
  have Cex := Lib.hid hex
  rw [e10]
  clear hex e10
  obtain ⟨ney, oey, Aey, ley, key, e21, hey⟩ := (show BigIs x15 (gg 21) ey from hh 21 _ (by decide) rfl).lettered
  have Cey := Lib.hid hey
  rw [e21]
  clear hey e21
  obtain ⟨gXX, e22, l22, b22⟩ := hh 22 _ (by decide) rfl
  rw [e22]
  obtain ⟨gXY, e23, l23, b23⟩ := hh 23 _ (by decide) rfl
  rw [e23]
  have ne_XX_XY : gXX ≠ gXY := hd 22 23 _ _ gXX gXY (by decide) (by decide) rfl rfl (by decide) (by rw [e22]; rfl) (by rw [e23]; rfl)
  have lt_X0_XX : w.heap.size < gXX := by omega
  have lt_X1_XX : w.heap.size + 1 < gXX := by omega
  have lt_X2_XX : w.heap.size + 1 + 1 < gXX := by omega
  have lt_XD_XX : gXD < gXX := by omega
  have lt_XE_XX : gXE < gXX := by omega
  have lt_XU_XX : gXU < gXX := by omega
  have lt_XV_XX : gXV < gXX := by omega
  have lt_XW_XX : gXW < gXX := by omega
  have lt_XR_XX : gXR < gXX := by omega
  have lt_XP_XX : gXP < gXX := by omega
  have lt_XQ_XX : gXQ < gXX := by omega
  have lt_XS_XX : gXS < gXX := by omega
  have gw_XX : w.heap.size ≤ gXX := by omega
  have XX : Hid (Blk x15 gXX #[.bool false, .bool false, .slice none 0 0] 52) := b22
  clear b22 e22
  have lt_X0_XY : w.heap.size < gXY := by omega
  have lt_X1_XY : w.heap.size + 1 < gXY := by omega
  have lt_X2_XY : w.heap.size + 1 + 1 < gXY := by omega
  have lt_XD_XY : gXD < gXY := by omega
  have lt_XE_XY : gXE < gXY := by omega
  have lt_XU_XY : gXU < gXY := by omega
  have lt_XV_XY : gXV < gXY := by omega
  have lt_XW_XY : gXW < gXY := by omega
  have lt_XR_XY : gXR < gXY := by omega
  have lt_XP_XY : gXP < gXY := by omega
  have lt_XQ_XY : gXQ < gXY := by omega
  have lt_XS_XY : gXS < gXY := by omega
  have gw_XY : w.heap.size ≤ gXY := by omega
  have XY : Hid (Blk x15 gXY #[.bool false, .bool false, .slice none 0 0] 52) := b23
  clear b23 e23
  clear hh hd plX0 plX1 plX2 plXD plXE plXU plXV plXW plXR plXP plXQ plXS
  have qXX_0 := XX.out.cell (i := 0) (v := .bool false) rfl
  have qXX_1 := XX.out.cell (i := 1) (v := .bool false) rfl
  have qXX_2 := XX.out.cell (i := 2) (v := .slice none 0 0) rfl
  have rl_XX := XX.out.lt
  have qXY_0 := XY.out.cell (i := 0) (v := .bool false) rfl
  have qXY_1 := XY.out.cell (i := 1) (v := .bool false) rfl
  have qXY_2 := XY.out.cell (i := 2) (v := .slice none 0 0) rfl
  have rl_XY := XY.out.lt
  have fz_XX := XX.out.frozen
  have ft_XX := XX.out.fits 3 (by simp)
  have fz_XY := XY.out.frozen
  have ft_XY := XY.out.fits 3 (by simp)
  have ns_0_1 := ne_XX_XY.symm
  go_upto_region 8 with fail
  clear qXX_0 qXX_1 qXX_2 rl_XX qXY_0 qXY_1 qXY_2 rl_XY fz_XX ft_XX fz_XY ft_XY
  obtain ⟨v16, hv⟩ : ∃ v, v = ((x15.setCell ⟨gXX, 0, none⟩ (.bool nex)).setCell ⟨gXX, 1, none⟩ (.bool oex)).setCell ⟨gXX, 2, none⟩ (.slice Aex lex kex) := ⟨_, rfl⟩
  rw [← hv]
  have ho : OnlyAt (gXX) x15 v16 := by rw [hv]; exact OnlyAt.refl.set3 _ _ _
  have hn := hv
  replace C0 := Lib.hid (C0.out.only ho XX.out (big_no _ _ _ _ _))
  replace C1 := Lib.hid (C1.out.only ho XX.out (big_no _ _ _ _ _))
  replace C2 := Lib.hid (C2.out.only ho XX.out (big_no _ _ _ _ _))
  replace C3 := Lib.hid (C3.out.only ho XX.out (big_no _ _ _ _ _))
  replace C4 := Lib.hid (C4.out.only ho XX.out (big_no _ _ _ _ _))
  replace C5 := Lib.hid (C5.out.only ho XX.out (big_no _ _ _ _ _))
  replace C6 := Lib.hid (C6.out.only ho XX.out (big_no _ _ _ _ _))
  replace Cd := Lib.hid (Cd.out.only ho XX.out (big_no _ _ _ _ _))
  replace Cdd := Lib.hid (Cdd.out.only ho XX.out (big_no _ _ _ _ _))
  replace Cuu := Lib.hid (Cuu.out.only ho XX.out (big_no _ _ _ _ _))
  replace Cvv := Lib.hid (Cvv.out.only ho XX.out (big_no _ _ _ _ _))
  replace Cuv := Lib.hid (Cuv.out.only ho XX.out (big_no _ _ _ _ _))
  replace Cr := Lib.hid (Cr.out.only ho XX.out (big_no _ _ _ _ _))
  replace Cp := Lib.hid (Cp.out.only ho XX.out (big_no _ _ _ _ _))
  replace Cq := Lib.hid (Cq.out.only ho XX.out (big_no _ _ _ _ _))
  replace Cs := Lib.hid (Cs.out.only ho XX.out (big_no _ _ _ _ _))
  replace Cex := Lib.hid (Cex.out.only ho XX.out (big_no _ _ _ _ _))
  replace Cey := Lib.hid (Cey.out.only ho XX.out (big_no _ _ _ _ _))
  replace X0 := Lib.hid (ho.blk X0.out (by omega))
  replace X1 := Lib.hid (ho.blk X1.out (by omega))
  replace X2 := Lib.hid (ho.blk X2.out (by omega))
  replace XD := Lib.hid (ho.blk XD.out (by omega))
  replace XE := Lib.hid (ho.blk XE.out (by omega))
  replace XU := Lib.hid (ho.blk XU.out (by omega))
  replace XV := Lib.hid (ho.blk XV.out (by omega))
  replace XW := Lib.hid (ho.blk XW.out (by omega))
  replace XR := Lib.hid (ho.blk XR.out (by omega))
  replace XP := Lib.hid (ho.blk XP.out (by omega))
  replace XQ := Lib.hid (ho.blk XQ.out (by omega))
  replace XS := Lib.hid (ho.blk XS.out (by omega))
  replace XY := Lib.hid (ho.blk XY.out (by omega))
  replace HB := Lib.hid (OnlyAt.below ho HB.out (Nat.le_refl _) (by omega))
  replace XX : Hid (Blk v16 (gXX) #[.bool nex, .bool oex, .slice Aex lex kex] 52) := by rw [hv]; exact XX.out.set3 _ _ _
  clear ho hn hv
  obtain ⟨v17, hv⟩ : ∃ v, v = ((v16.setCell ⟨gXY, 0, none⟩ (.bool ney)).setCell ⟨gXY, 1, none⟩ (.bool oey)).setCell ⟨gXY, 2, none⟩ (.slice Aey ley key) := ⟨_, rfl⟩
  rw [← hv]
  have ho : OnlyAt (gXY) v16 v17 := by rw [hv]; exact OnlyAt.refl.set3 _ _ _
  have hn := hv
  replace C0 := Lib.hid (C0.out.only ho XY.out (big_no _ _ _ _ _))
  replace C1 := Lib.hid (C1.out.only ho XY.out (big_no _ _ _ _ _))
  replace C2 := Lib.hid (C2.out.only ho XY.out (big_no _ _ _ _ _))
  replace C3 := Lib.hid (C3.out.only ho XY.out (big_no _ _ _ _ _))
  replace C4 := Lib.hid (C4.out.only ho XY.out (big_no _ _ _ _ _))
  replace C5 := Lib.hid (C5.out.only ho XY.out (big_no _ _ _ _ _))
  replace C6 := Lib.hid (C6.out.only ho XY.out (big_no _ _ _ _ _))
  replace Cd := Lib.hid (Cd.out.only ho XY.out (big_no _ _ _ _ _))
  replace Cdd := Lib.hid (Cdd.out.only ho XY.out (big_no _ _ _ _ _))
  replace Cuu := Lib.hid (Cuu.out.only ho XY.out (big_no _ _ _ _ _))
  replace Cvv := Lib.hid (Cvv.out.only ho XY.out (big_no _ _ _ _ _))
  replace Cuv := Lib.hid (Cuv.out.only ho XY.out (big_no _ _ _ _ _))
  replace Cr := Lib.hid (Cr.out.only ho XY.out (big_no _ _ _ _ _))
  replace Cp := Lib.hid (Cp.out.only ho XY.out (big_no _ _ _ _ _))
  replace Cq := Lib.hid (Cq.out.only ho XY.out (big_no _ _ _ _ _))
  replace Cs := Lib.hid (Cs.out.only ho XY.out (big_no _ _ _ _ _))
  replace Cex := Lib.hid (Cex.out.only ho XY.out (big_no _ _ _ _ _))
  replace Cey := Lib.hid (Cey.out.only ho XY.out (big_no _ _ _ _ _))
  replace X0 := Lib.hid (ho.blk X0.out (by omega))
  replace X1 := Lib.hid (ho.blk X1.out (by omega))
  replace X2 := Lib.hid (ho.blk X2.out (by omega))
  replace XD := Lib.hid (ho.blk XD.out (by omega))
  replace XE := Lib.hid (ho.blk XE.out (by omega))
  replace XU := Lib.hid (ho.blk XU.out (by omega))
  replace XV := Lib.hid (ho.blk XV.out (by omega))
  replace XW := Lib.hid (ho.blk XW.out (by omega))
  replace XR := Lib.hid (ho.blk XR.out (by omega))
  replace XP := Lib.hid (ho.blk XP.out (by omega))
  replace XQ := Lib.hid (ho.blk XQ.out (by omega))
  replace XS := Lib.hid (ho.blk XS.out (by omega))
  replace XX := Lib.hid (ho.blk XX.out (by omega))
  replace HB := Lib.hid (OnlyAt.below ho HB.out (Nat.le_refl _) (by omega))
  replace XY : Hid (Blk v17 (gXY) #[.bool ney, .bool oey, .slice Aey ley key] 52) := by rw [hv]; exact XY.out.set3 _ _ _
  clear ho hn hv
  obtain ⟨hv_d, hv_dd, hv_r, hv_p, hv_q, hv_s, hv_ex, hv_ey⟩ := hov.out
  clear hov h_m1 h_m2 h_d h_dd h_uu h_vv h_uv h_t1 h_t2 h_t3 h_t4 h_t5 h_t6 h_t7 h_r h_p h_q h_s0 h_s h_a1 h_a2 h_ex h_b1 h_b2 h_ey
  obtain ⟨-, f⟩ := Cd.out.flags
  rw [hv_d] at f
  subst f
  clear hv_d
  obtain ⟨-, f⟩ := Cdd.out.flags
  rw [hv_dd] at f
  subst f
  clear hv_dd
  obtain ⟨-, f⟩ := Cr.out.flags
  rw [hv_r] at f
  subst f
  clear hv_r
  obtain ⟨-, f⟩ := Cp.out.flags
  rw [hv_p] at f
  subst f
  clear hv_p
  obtain ⟨-, f⟩ := Cq.out.flags
  rw [hv_q] at f
  subst f
  clear hv_q
  obtain ⟨-, f⟩ := Cs.out.flags
  rw [hv_s] at f
  subst f
  clear hv_s
  obtain ⟨-, f⟩ := Cex.out.flags
  rw [hv_ex] at f
  subst f
  clear hv_ex
  obtain ⟨-, f⟩ := Cey.out.flags
  rw [hv_ey] at f
  subst f
  clear hv_ey
  clear XU
  clear XV
  clear XW
  clear Cuu
  clear Cvv
  clear Cuv
  have rw0 := X0.out.row?_all 21 rfl
  have rl0 := X0.out.lt
  go_wp2_with fail
  clear rw0 rl0
  refine Calls.mono (rover_c _ z0 z1 z2 z3 z4 z5 z6 _ hall.out ⟨_, _, _, _, _, _, _, _, _, _, _, _, _, _, _, _, _, _, _, _, _, _, _, _, _, _, _, _, _, _, _, _, _, _, _, rfl, C0.out, C1.out, C2.out, C3.out, C4.out, C5.out, C6.out⟩) ?_
  rintro e x18 ⟨rfl, hb⟩
  replace X0 := Lib.hid (X0.out.keep hb)
  replace X1 := Lib.hid (X1.out.keep hb)
  replace X2 := Lib.hid (X2.out.keep hb)
  replace XD := Lib.hid (XD.out.keep hb)
  replace XE := Lib.hid (XE.out.keep hb)
  replace XR := Lib.hid (XR.out.keep hb)
  replace XP := Lib.hid (XP.out.keep hb)
  replace XQ := Lib.hid (XQ.out.keep hb)
  replace XS := Lib.hid (XS.out.keep hb)
  replace XX := Lib.hid (XX.out.keep hb)
  replace XY := Lib.hid (XY.out.keep hb)
  replace C0 := Lib.hid (C0.out.below hb)
  replace C1 := Lib.hid (C1.out.below hb)
  replace C2 := Lib.hid (C2.out.below hb)
  replace C3 := Lib.hid (C3.out.below hb)
  replace C4 := Lib.hid (C4.out.below hb)
  replace C5 := Lib.hid (C5.out.below hb)
  replace C6 := Lib.hid (C6.out.below hb)
  replace Cd := Lib.hid (Cd.out.below hb)
  replace Cdd := Lib.hid (Cdd.out.below hb)
  replace Cr := Lib.hid (Cr.out.below hb)
  replace Cp := Lib.hid (Cp.out.below hb)
  replace Cq := Lib.hid (Cq.out.below hb)
  replace Cs := Lib.hid (Cs.out.below hb)
  replace Cex := Lib.hid (Cex.out.below hb)
  replace Cey := Lib.hid (Cey.out.below hb)
  replace HB := Lib.hid (HB.out.trans (hb.mono HB.out.size))
  clear hb
  have qX0_0 := X0.out.cell (i := 0) (v := .bool n0) rfl
  have qX0_1 := X0.out.cell (i := 1) (v := .bool o0) rfl
  have qX0_2 := X0.out.cell (i := 2) (v := .slice A0 l0 k0) rfl
  have rl_X0 := X0.out.lt
  have qXD_0 := XD.out.cell (i := 0) (v := .bool nd) rfl
  have qXD_1 := XD.out.cell (i := 1) (v := .bool false) rfl
  have qXD_2 := XD.out.cell (i := 2) (v := .slice Ad ld kd) rfl
  have rl_XD := XD.out.lt
  have qXE_1 := XE.out.cell (i := 1) (v := .bool false) rfl
  have rl_XE := XE.out.lt
  have qXR_1 := XR.out.cell (i := 1) (v := .bool false) rfl
  have rl_XR := XR.out.lt
  have qXP_1 := XP.out.cell (i := 1) (v := .bool false) rfl
  have rl_XP := XP.out.lt
  have qXQ_1 := XQ.out.cell (i := 1) (v := .bool false) rfl
  have rl_XQ := XQ.out.lt
  have qXS_1 := XS.out.cell (i := 1) (v := .bool false) rfl
  have rl_XS := XS.out.lt
  have qXX_1 := XX.out.cell (i := 1) (v := .bool false) rfl
  have rl_XX := XX.out.lt
  have qXY_1 := XY.out.cell (i := 1) (v := .bool false) rfl
  have rl_XY := XY.out.lt
  go_wp2_with fail
  clear qX0_0 qX0_1 qX0_2 rl_X0 qXD_0 qXD_1 qXD_2 rl_XD qXE_1 rl_XE qXR_1 rl_XR qXP_1 rl_XP qXQ_1 rl_XQ qXS_1 rl_XS qXX_1 rl_XX qXY_1 rl_XY
  clear C1
  clear C2
  clear C3
  clear C4
  clear C5
  clear C6
  refine Calls.mono (signB_v hsA C0.out) ?_
  rintro e x19 ⟨rfl, hb⟩
  replace X0 := Lib.hid (X0.out.keep hb)
  replace X1 := Lib.hid (X1.out.keep hb)
  replace X2 := Lib.hid (X2.out.keep hb)
  replace XD := Lib.hid (XD.out.keep hb)
  replace XE := Lib.hid (XE.out.keep hb)
  replace XR := Lib.hid (XR.out.keep hb)
  replace XP := Lib.hid (XP.out.keep hb)
  replace XQ := Lib.hid (XQ.out.keep hb)
  replace XS := Lib.hid (XS.out.keep hb)
  replace XX := Lib.hid (XX.out.keep hb)
  replace XY := Lib.hid (XY.out.keep hb)
  replace C0 := Lib.hid (C0.out.below hb)
  replace Cd := Lib.hid (Cd.out.below hb)
  replace Cdd := Lib.hid (Cdd.out.below hb)
  replace Cr := Lib.hid (Cr.out.below hb)
  replace Cp := Lib.hid (Cp.out.below hb)
  replace Cq := Lib.hid (Cq.out.below hb)
  replace Cs := Lib.hid (Cs.out.below hb)
  replace Cex := Lib.hid (Cex.out.below hb)
  replace Cey := Lib.hid (Cey.out.below hb)
  replace HB := Lib.hid (HB.out.trans (hb.mono HB.out.size))
  clear hb
  by_cases hA : sA ≤ 0
  · have EV : Hid (R = (El.zero, 1)) := hR1.out (.inl hA)
    have qX1_0 := X1.out.cell (i := 0) (v := .int .i64 0) rfl
    have qX1_1 := X1.out.cell (i := 1) (v := .int .i64 0) rfl
    have qX1_2 := X1.out.cell (i := 2) (v := .int .i64 0) rfl
    have qX1_3 := X1.out.cell (i := 3) (v := .int .i64 0) rfl
    have qX1_4 := X1.out.cell (i := 4) (v := .int .i64 0) rfl
    have rl_X1 := X1.out.lt
    have qX2_0 := X2.out.cell (i := 0) (v := .int .i64 0) rfl
    have qX2_1 := X2.out.cell (i := 1) (v := .int .i64 0) rfl
    have qX2_2 := X2.out.cell (i := 2) (v := .int .i64 0) rfl
    have qX2_3 := X2.out.cell (i := 3) (v := .int .i64 0) rfl
    have qX2_4 := X2.out.cell (i := 4) (v := .int .i64 0) rfl
    have rl_X2 := X2.out.lt
    have fz_X1 := X1.out.frozen
    have ft_X1 := X1.out.fits 5 (by simp)
    go_wp2_with fail
    exact bodyPost_row_t 5 #[.int .i64 0, .int .i64 0, .int .i64 0, .int .i64 0, .int .i64 0] (.int .i64 1) rfl rfl rfl rfl Tryz.underlying27 rfl (by kernel_rfl) (row_of_cells 4 _ rfl (by intro i hi; rcases i with _ | _ | _ | _ | _ | i; (go_simp); (go_simp); (go_simp); (go_simp); (go_simp); exact absurd hi (by omega))) ⟨by rw [EV.out]; rfl, below_byR⟩
  · skip
    have qXD_0 := XD.out.cell (i := 0) (v := .bool nd) rfl
    have qXD_1 := XD.out.cell (i := 1) (v := .bool false) rfl
    have qXD_2 := XD.out.cell (i := 2) (v := .slice Ad ld kd) rfl
    have rl_XD := XD.out.lt
    go_wp2_with fail
    clear qXD_0 qXD_1 qXD_2 rl_XD
    refine Calls.mono (signB_v hsd Cd.out) ?_
    rintro e x20 ⟨rfl, hb⟩
    replace X0 := Lib.hid (X0.out.keep hb)
    replace X1 := Lib.hid (X1.out.keep hb)
    replace X2 := Lib.hid (X2.out.keep hb)
    replace XD := Lib.hid (XD.out.keep hb)
    replace XE := Lib.hid (XE.out.keep hb)
    replace XR := Lib.hid (XR.out.keep hb)
    replace XP := Lib.hid (XP.out.keep hb)
    replace XQ := Lib.hid (XQ.out.keep hb)
    replace XS := Lib.hid (XS.out.keep hb)
    replace XX := Lib.hid (XX.out.keep hb)
    replace XY := Lib.hid (XY.out.keep hb)
    replace C0 := Lib.hid (C0.out.below hb)
    replace Cd := Lib.hid (Cd.out.below hb)
    replace Cdd := Lib.hid (Cdd.out.below hb)
    replace Cr := Lib.hid (Cr.out.below hb)
    replace Cp := Lib.hid (Cp.out.below hb)
    replace Cq := Lib.hid (Cq.out.below hb)
    replace Cs := Lib.hid (Cs.out.below hb)
    replace Cex := Lib.hid (Cex.out.below hb)
    replace Cey := Lib.hid (Cey.out.below hb)
    replace HB := Lib.hid (HB.out.trans (hb.mono HB.out.size))
    clear hb
    by_cases hd : sd ≤ 0
    · have EV : Hid (R = (El.zero, 1)) := hR1.out (.inr hd)
      have qX1_0 := X1.out.cell (i := 0) (v := .int .i64 0) rfl
      have qX1_1 := X1.out.cell (i := 1) (v := .int .i64 0) rfl
      have qX1_2 := X1.out.cell (i := 2) (v := .int .i64 0) rfl
      have qX1_3 := X1.out.cell (i := 3) (v := .int .i64 0) rfl
      have qX1_4 := X1.out.cell (i := 4) (v := .int .i64 0) rfl
      have rl_X1 := X1.out.lt
      have qX2_0 := X2.out.cell (i := 0) (v := .int .i64 0) rfl
      have qX2_1 := X2.out.cell (i := 1) (v := .int .i64 0) rfl
      have qX2_2 := X2.out.cell (i := 2) (v := .int .i64 0) rfl
      have qX2_3 := X2.out.cell (i := 3) (v := .int .i64 0) rfl
      have qX2_4 := X2.out.cell (i := 4) (v := .int .i64 0) rfl
      have rl_X2 := X2.out.lt
      have fz_X1 := X1.out.frozen
      have ft_X1 := X1.out.fits 5 (by simp)
      go_wp2_with fail
      exact bodyPost_row_t 5 #[.int .i64 0, .int .i64 0, .int .i64 0, .int .i64 0, .int .i64 0] (.int .i64 1) rfl rfl rfl rfl Tryz.underlying27 rfl (by kernel_rfl) (row_of_cells 4 _ rfl (by intro i hi; rcases i with _ | _ | _ | _ | _ | i; (go_simp); (go_simp); (go_simp); (go_simp); (go_simp); exact absurd hi (by omega))) ⟨by rw [EV.out]; rfl, below_byR⟩
    · skip
      have qXR_0 := XR.out.cell (i := 0) (v := .bool nr) rfl
      have qXR_1 := XR.out.cell (i := 1) (v := .bool false) rfl
      have qXR_2 := XR.out.cell (i := 2) (v := .slice Ar lr kr) rfl
      have rl_XR := XR.out.lt
      go_wp2_with fail
      clear qXR_0 qXR_1 qXR_2 rl_XR
      refine Calls.mono (signB_v hsr Cr.out) ?_
      rintro e x21 ⟨rfl, hb⟩
      replace X0 := Lib.hid (X0.out.keep hb)
      replace X1 := Lib.hid (X1.out.keep hb)
      replace X2 := Lib.hid (X2.out.keep hb)
      replace XD := Lib.hid (XD.out.keep hb)
      replace XE := Lib.hid (XE.out.keep hb)
      replace XR := Lib.hid (XR.out.keep hb)
      replace XP := Lib.hid (XP.out.keep hb)
      replace XQ := Lib.hid (XQ.out.keep hb)
      replace XS := Lib.hid (XS.out.keep hb)
      replace XX := Lib.hid (XX.out.keep hb)
      replace XY := Lib.hid (XY.out.keep hb)
      replace C0 := Lib.hid (C0.out.below hb)
      replace Cd := Lib.hid (Cd.out.below hb)
      replace Cdd := Lib.hid (Cdd.out.below hb)
      replace Cr := Lib.hid (Cr.out.below hb)
      replace Cp := Lib.hid (Cp.out.below hb)
      replace Cq := Lib.hid (Cq.out.below hb)
      replace Cs := Lib.hid (Cs.out.below hb)
      replace Cex := Lib.hid (Cex.out.below hb)
      replace Cey := Lib.hid (Cey.out.below hb)
      replace HB := Lib.hid (HB.out.trans (hb.mono HB.out.size))
      clear hb
      by_cases hr : sr < 0
      · have EV : Hid (R = (El.zero, 3)) := hR2.out (by omega) (by omega) hr
        have qX1_0 := X1.out.cell (i := 0) (v := .int .i64 0) rfl
        have qX1_1 := X1.out.cell (i := 1) (v := .int .i64 0) rfl
        have qX1_2 := X1.out.cell (i := 2) (v := .int .i64 0) rfl
        have qX1_3 := X1.out.cell (i := 3) (v := .int .i64 0) rfl
        have qX1_4 := X1.out.cell (i := 4) (v := .int .i64 0) rfl
        have rl_X1 := X1.out.lt
        have qX2_0 := X2.out.cell (i := 0) (v := .int .i64 0) rfl
        have qX2_1 := X2.out.cell (i := 1) (v := .int .i64 0) rfl
        have qX2_2 := X2.out.cell (i := 2) (v := .int .i64 0) rfl
        have qX2_3 := X2.out.cell (i := 3) (v := .int .i64 0) rfl
        have qX2_4 := X2.out.cell (i := 4) (v := .int .i64 0) rfl
        have rl_X2 := X2.out.lt
        have fz_X1 := X1.out.frozen
        have ft_X1 := X1.out.fits 5 (by simp)
        go_wp2_with fail
        exact bodyPost_row_t 5 #[.int .i64 0, .int .i64 0, .int .i64 0, .int .i64 0, .int .i64 0] (.int .i64 3) rfl rfl rfl rfl Tryz.underlying27 rfl (by kernel_rfl) (row_of_cells 4 _ rfl (by intro i hi; rcases i with _ | _ | _ | _ | _ | i; (go_simp); (go_simp); (go_simp); (go_simp); (go_simp); exact absurd hi (by omega))) ⟨by rw [EV.out]; rfl, below_byR⟩
      · skip
        have qXX_0 := XX.out.cell (i := 0) (v := .bool nex) rfl
        have qXX_1 := XX.out.cell (i := 1) (v := .bool false) rfl
        have qXX_2 := XX.out.cell (i := 2) (v := .slice Aex lex kex) rfl
        have rl_XX := XX.out.lt
        have qXD_0 := XD.out.cell (i := 0) (v := .bool nd) rfl
        have qXD_1 := XD.out.cell (i := 1) (v := .bool false) rfl
        have qXD_2 := XD.out.cell (i := 2) (v := .slice Ad ld kd) rfl
        have rl_XD := XD.out.lt
        go_wp2_with fail
        clear qXX_0 qXX_1 qXX_2 rl_XX qXD_0 qXD_1 qXD_2 rl_XD
        refine Calls.mono (nearB_v N1 Cex.out Cd.out) ?_
        rintro e x22 ⟨rfl, hb⟩
        replace X0 := Lib.hid (X0.out.keep hb)
        replace X1 := Lib.hid (X1.out.keep hb)
        replace X2 := Lib.hid (X2.out.keep hb)
        replace XD := Lib.hid (XD.out.keep hb)
        replace XE := Lib.hid (XE.out.keep hb)
        replace XR := Lib.hid (XR.out.keep hb)
        replace XP := Lib.hid (XP.out.keep hb)
        replace XQ := Lib.hid (XQ.out.keep hb)
        replace XS := Lib.hid (XS.out.keep hb)
        replace XX := Lib.hid (XX.out.keep hb)
        replace XY := Lib.hid (XY.out.keep hb)
        replace C0 := Lib.hid (C0.out.below hb)
        replace Cd := Lib.hid (Cd.out.below hb)
        replace Cdd := Lib.hid (Cdd.out.below hb)
        replace Cr := Lib.hid (Cr.out.below hb)
        replace Cp := Lib.hid (Cp.out.below hb)
        replace Cq := Lib.hid (Cq.out.below hb)
        replace Cs := Lib.hid (Cs.out.below hb)
        replace Cex := Lib.hid (Cex.out.below hb)
        replace Cey := Lib.hid (Cey.out.below hb)
        replace HB := Lib.hid (HB.out.trans (hb.mono HB.out.size))
        clear hb
        have qXY_0 := XY.out.cell (i := 0) (v := .bool ney) rfl
        have qXY_1 := XY.out.cell (i := 1) (v := .bool false) rfl
        have qXY_2 := XY.out.cell (i := 2) (v := .slice Aey ley key) rfl
        have rl_XY := XY.out.lt
        have qXD_0 := XD.out.cell (i := 0) (v := .bool nd) rfl
        have qXD_1 := XD.out.cell (i := 1) (v := .bool false) rfl
        have qXD_2 := XD.out.cell (i := 2) (v := .slice Ad ld kd) rfl
        have rl_XD := XD.out.lt
        go_wp2_with fail
        clear qXY_0 qXY_1 qXY_2 rl_XY qXD_0 qXD_1 qXD_2 rl_XD
        refine Calls.mono (nearB_v N2 Cey.out Cd.out) ?_
        rintro e x23 ⟨rfl, hb⟩
        replace X0 := Lib.hid (X0.out.keep hb)
        replace X1 := Lib.hid (X1.out.keep hb)
        replace X2 := Lib.hid (X2.out.keep hb)
        replace XD := Lib.hid (XD.out.keep hb)
        replace XE := Lib.hid (XE.out.keep hb)
        replace XR := Lib.hid (XR.out.keep hb)
        replace XP := Lib.hid (XP.out.keep hb)
        replace XQ := Lib.hid (XQ.out.keep hb)
        replace XS := Lib.hid (XS.out.keep hb)
        replace XX := Lib.hid (XX.out.keep hb)
        replace XY := Lib.hid (XY.out.keep hb)
        replace C0 := Lib.hid (C0.out.below hb)
        replace Cd := Lib.hid (Cd.out.below hb)
        replace Cdd := Lib.hid (Cdd.out.below hb)
        replace Cr := Lib.hid (Cr.out.below hb)
        replace Cp := Lib.hid (Cp.out.below hb)
        replace Cq := Lib.hid (Cq.out.below hb)
        replace Cs := Lib.hid (Cs.out.below hb)
        replace Cex := Lib.hid (Cex.out.below hb)
        replace Cey := Lib.hid (Cey.out.below hb)
        replace HB := Lib.hid (HB.out.trans (hb.mono HB.out.size))
        clear hb
        have qXP_0 := XP.out.cell (i := 0) (v := .bool np) rfl
        have qXP_1 := XP.out.cell (i := 1) (v := .bool false) rfl
        have qXP_2 := XP.out.cell (i := 2) (v := .slice Ap lp kp) rfl
        have rl_XP := XP.out.lt
        have qXE_0 := XE.out.cell (i := 0) (v := .bool ndd) rfl
        have qXE_1 := XE.out.cell (i := 1) (v := .bool false) rfl
        have qXE_2 := XE.out.cell (i := 2) (v := .slice Add ldd kdd) rfl
        have rl_XE := XE.out.lt
        go_wp2_with fail
        clear qXP_0 qXP_1 qXP_2 rl_XP qXE_0 qXE_1 qXE_2 rl_XE
        refine Calls.mono (ceilB_v N3 Cp.out Cdd.out) ?_
        rintro e x24 ⟨rfl, hb⟩
        replace X0 := Lib.hid (X0.out.keep hb)
        replace X1 := Lib.hid (X1.out.keep hb)
        replace X2 := Lib.hid (X2.out.keep hb)
        replace XD := Lib.hid (XD.out.keep hb)
        replace XE := Lib.hid (XE.out.keep hb)
        replace XR := Lib.hid (XR.out.keep hb)
        replace XP := Lib.hid (XP.out.keep hb)
        replace XQ := Lib.hid (XQ.out.keep hb)
        replace XS := Lib.hid (XS.out.keep hb)
        replace XX := Lib.hid (XX.out.keep hb)
        replace XY := Lib.hid (XY.out.keep hb)
        replace C0 := Lib.hid (C0.out.below hb)
        replace Cd := Lib.hid (Cd.out.below hb)
        replace Cdd := Lib.hid (Cdd.out.below hb)
        replace Cr := Lib.hid (Cr.out.below hb)
        replace Cp := Lib.hid (Cp.out.below hb)
        replace Cq := Lib.hid (Cq.out.below hb)
        replace Cs := Lib.hid (Cs.out.below hb)
        replace Cex := Lib.hid (Cex.out.below hb)
        replace Cey := Lib.hid (Cey.out.below hb)
        replace HB := Lib.hid (HB.out.trans (hb.mono HB.out.size))
        clear hb
        have qXS_0 := XS.out.cell (i := 0) (v := .bool ns) rfl
        have qXS_1 := XS.out.cell (i := 1) (v := .bool false) rfl
        have qXS_2 := XS.out.cell (i := 2) (v := .slice As ls ks) rfl
        have rl_XS := XS.out.lt
        have qXE_0 := XE.out.cell (i := 0) (v := .bool ndd) rfl
        have qXE_1 := XE.out.cell (i := 1) (v := .bool false) rfl
        have qXE_2 := XE.out.cell (i := 2) (v := .slice Add ldd kdd) rfl
        have rl_XE := XE.out.lt
        go_wp2_with fail
        clear qXS_0 qXS_1 qXS_2 rl_XS qXE_0 qXE_1 qXE_2 rl_XE
        refine Calls.mono (floorB_v N4 Cs.out Cdd.out) ?_
        rintro e x25 ⟨rfl, hb⟩
        replace X0 := Lib.hid (X0.out.keep hb)
        replace X1 := Lib.hid (X1.out.keep hb)
        replace X2 := Lib.hid (X2.out.keep hb)
        replace XD := Lib.hid (XD.out.keep hb)
        replace XE := Lib.hid (XE.out.keep hb)
        replace XR := Lib.hid (XR.out.keep hb)
        replace XP := Lib.hid (XP.out.keep hb)
        replace XQ := Lib.hid (XQ.out.keep hb)
        replace XS := Lib.hid (XS.out.keep hb)
        replace XX := Lib.hid (XX.out.keep hb)
        replace XY := Lib.hid (XY.out.keep hb)
        replace C0 := Lib.hid (C0.out.below hb)
        replace Cd := Lib.hid (Cd.out.below hb)
        replace Cdd := Lib.hid (Cdd.out.below hb)
        replace Cr := Lib.hid (Cr.out.below hb)
        replace Cp := Lib.hid (Cp.out.below hb)
        replace Cq := Lib.hid (Cq.out.below hb)
        replace Cs := Lib.hid (Cs.out.below hb)
        replace Cex := Lib.hid (Cex.out.below hb)
        replace Cey := Lib.hid (Cey.out.below hb)
        replace HB := Lib.hid (HB.out.trans (hb.mono HB.out.size))
        clear hb
        have qXQ_0 := XQ.out.cell (i := 0) (v := .bool nq) rfl
        have qXQ_1 := XQ.out.cell (i := 1) (v := .bool false) rfl
        have qXQ_2 := XQ.out.cell (i := 2) (v := .slice Aq lq kq) rfl
        have rl_XQ := XQ.out.lt
        have qXE_0 := XE.out.cell (i := 0) (v := .bool ndd) rfl
        have qXE_1 := XE.out.cell (i := 1) (v := .bool false) rfl
        have qXE_2 := XE.out.cell (i := 2) (v := .slice Add ldd kdd) rfl
        have rl_XE := XE.out.lt
        go_wp2_with fail
        clear qXQ_0 qXQ_1 qXQ_2 rl_XQ qXE_0 qXE_1 qXE_2 rl_XE
        refine Calls.mono (ceilB_v N5 Cq.out Cdd.out) ?_
        rintro e x26 ⟨rfl, hb⟩
        replace X0 := Lib.hid (X0.out.keep hb)
        replace X1 := Lib.hid (X1.out.keep hb)
        replace X2 := Lib.hid (X2.out.keep hb)
        replace XD := Lib.hid (XD.out.keep hb)
        replace XE := Lib.hid (XE.out.keep hb)
        replace XR := Lib.hid (XR.out.keep hb)
        replace XP := Lib.hid (XP.out.keep hb)
        replace XQ := Lib.hid (XQ.out.keep hb)
        replace XS := Lib.hid (XS.out.keep hb)
        replace XX := Lib.hid (XX.out.keep hb)
        replace XY := Lib.hid (XY.out.keep hb)
        replace C0 := Lib.hid (C0.out.below hb)
        replace Cd := Lib.hid (Cd.out.below hb)
        replace Cdd := Lib.hid (Cdd.out.below hb)
        replace Cr := Lib.hid (Cr.out.below hb)
        replace Cp := Lib.hid (Cp.out.below hb)
        replace Cq := Lib.hid (Cq.out.below hb)
        replace Cs := Lib.hid (Cs.out.below hb)
        replace Cex := Lib.hid (Cex.out.below hb)
        replace Cey := Lib.hid (Cey.out.below hb)
        replace HB := Lib.hid (HB.out.trans (hb.mono HB.out.size))
        clear hb
        have kk : Hid (I64 ca ∧ I64 cb ∧ I64 cc) := by have h3 := ceilV_i64 p dd; have h4 := floorV_i64 s dd; have h5 := ceilV_i64 q dd; rw [N3.out] at h3; rw [N4.out] at h4; rw [N5.out] at h5; exact ⟨h3, h4, h5⟩
        clear C0
        clear Cd
        clear Cdd
        clear Cr
        clear Cp
        clear Cq
        clear Cs
        clear Cex
        clear Cey
        clear X0
        clear XD
        clear XE
        clear XR
        clear XP
        clear XQ
        clear XS
        clear XX
        clear XY
        go_wp2_with fail
        clear hall hsA hsd hsr N1 N2 N3 N4 N5 hR1 hR2 lt_X0_XD lt_X1_XD lt_X2_XD gw_XD lt_X0_XE lt_X1_XE lt_X2_XE lt_XD_XE gw_XE ne_XU_XV ne_XU_XW ne_XV_XW lt_X0_XU lt_X1_XU lt_X2_XU lt_XD_XU lt_XE_XU gw_XU lt_X0_XV lt_X1_XV lt_X2_XV lt_XD_XV lt_XE_XV gw_XV lt_X0_XW lt_X1_XW lt_X2_XW lt_XD_XW lt_XE_XW gw_XW ns_0_1 ns_0_2 ns_1_2 lt_X0_XR lt_X1_XR lt_X2_XR lt_XD_XR lt_XE_XR lt_XU_XR lt_XV_XR lt_XW_XR gw_XR ne_XP_XQ ne_XP_XS ne_XQ_XS lt_X0_XP lt_X1_XP lt_X2_XP lt_XD_XP lt_XE_XP lt_XU_XP lt_XV_XP lt_XW_XP lt_XR_XP gw_XP lt_X0_XQ lt_X1_XQ lt_X2_XQ lt_XD_XQ lt_XE_XQ lt_XU_XQ lt_XV_XQ lt_XW_XQ lt_XR_XQ gw_XQ lt_X0_XS lt_X1_XS lt_X2_XS lt_XD_XS lt_XE_XS lt_XU_XS lt_XV_XS lt_XW_XS lt_XR_XS gw_XS ne_XX_XY lt_X0_XX lt_X1_XX lt_X2_XX lt_XD_XX lt_XE_XX lt_XU_XX lt_XV_XX lt_XW_XX lt_XR_XX lt_XP_XX lt_XQ_XX lt_XS_XX gw_XX lt_X0_XY lt_X1_XY lt_X2_XY lt_XD_XY lt_XE_XY lt_XU_XY lt_XV_XY lt_XW_XY lt_XR_XY lt_XP_XY lt_XQ_XY lt_XS_XY gw_XY l11 l15 l16 l17 l23 l13 l14 l22
        go_loopw [202] (fun i wr => ∃ k : Nat, k ≤ 5 ∧ i = .int .i64 k ∧ Hid (∀ j, j < k → e5n er1 er2 er3 er4 er5 j = 0) ∧ Hid (Below x26.heap.size x26 wr)) (fun i _ => 5 - (intOf i).toNat)
        case atStart => exact ⟨0, by omega, rfl, Lib.hid (fun j hj => absurd hj (Nat.not_lt_zero j)), Lib.hid (Below.refl _ _)⟩
        case round =>
          obtain ⟨k, hk, rfl, HZ, HC⟩ := hrel
          have hb : Below x26.heap.size x26 wr := HC.out
          replace X1 := Lib.hid (X1.out.keep hb)
          replace X2 := Lib.hid (X2.out.keep hb)
          replace HB := Lib.hid (HB.out.trans (hb.mono HB.out.size))
          clear hb
          by_cases hlt : k < 5
          · obtain ⟨v, hv⟩ : ∃ v, e5n er1 er2 er3 er4 er5 k = v := ⟨_, rfl⟩
            have hx : ∀ w, Sem.run Tryz.prog (Instr.index 90 (.agg #[.int .i64 er1, .int .i64 er2, .int .i64 er3, .int .i64 er4, .int .i64 er5]) (.int .i64 k)) w = .ok (.int .i64 v) w := fun w => by rw [← hv]; exact e5_at _ _ _ _ _ k hlt w
            have HV := Lib.hid hv
            clear hv
            have hk1 : (k : Int) < 5 := by omega
            have hk0 : (0 : Int) ≤ k := by omega
            by_cases v0 : v = 0
            · subst v0
              go_wp2_with fail
              refine ⟨⟨k + 1, by omega, by go_num, Lib.hid ?_, HC⟩, by simp [intOf]; omega⟩
              intro j hj
              rcases Nat.lt_or_ge j k with h | h
              · exact HZ.out j h
              · obtain rfl : j = k := by omega
                exact HV.out
            · have v1 : (v == 0) = false := by simp [v0]
              have EV : Hid (R = (El.zero, 2)) := hR3.out (by omega) (by omega) (by omega) k hlt (by rw [HV.out]; exact v0)
              have qX1_0 := X1.out.cell (i := 0) (v := .int .i64 0) rfl
              have qX1_1 := X1.out.cell (i := 1) (v := .int .i64 0) rfl
              have qX1_2 := X1.out.cell (i := 2) (v := .int .i64 0) rfl
              have qX1_3 := X1.out.cell (i := 3) (v := .int .i64 0) rfl
              have qX1_4 := X1.out.cell (i := 4) (v := .int .i64 0) rfl
              have rl_X1 := X1.out.lt
              have qX2_0 := X2.out.cell (i := 0) (v := .int .i64 0) rfl
              have qX2_1 := X2.out.cell (i := 1) (v := .int .i64 0) rfl
              have qX2_2 := X2.out.cell (i := 2) (v := .int .i64 0) rfl
              have qX2_3 := X2.out.cell (i := 3) (v := .int .i64 0) rfl
              have qX2_4 := X2.out.cell (i := 4) (v := .int .i64 0) rfl
              have rl_X2 := X2.out.lt
              have fz_X1 := X1.out.frozen
              have ft_X1 := X1.out.fits 5 (by simp)
              go_wp2_with fail
              exact bodyPost_row_t 5 #[.int .i64 0, .int .i64 0, .int .i64 0, .int .i64 0, .int .i64 0] (.int .i64 2) rfl rfl rfl rfl Tryz.underlying27 rfl (by kernel_rfl) (row_of_cells 4 _ rfl (by intro i hi; rcases i with _ | _ | _ | _ | _ | i; (go_simp); (go_simp); (go_simp); (go_simp); (go_simp); exact absurd hi (by omega))) ⟨by rw [EV.out]; rfl, below_byR⟩
          · have hk2 : ¬ (k : Int) < 5 := by omega
            have ER : Hid (R = ellEnd cx cy ca cb cc 0) := hR4.out (by omega) (by omega) (by omega) (fun j hj => HZ.out j (by omega))
            by_cases ha : 70368744177664 < ca
            · have EV : Hid (R = (El.zero, 2)) := by show _ = _; rw [ER.out]; unfold ellEnd; rw [if_pos (.inr (.inl (by omega)))]
              have qX1_0 := X1.out.cell (i := 0) (v := .int .i64 0) rfl
              have qX1_1 := X1.out.cell (i := 1) (v := .int .i64 0) rfl
              have qX1_2 := X1.out.cell (i := 2) (v := .int .i64 0) rfl
              have qX1_3 := X1.out.cell (i := 3) (v := .int .i64 0) rfl
              have qX1_4 := X1.out.cell (i := 4) (v := .int .i64 0) rfl
              have rl_X1 := X1.out.lt
              have qX2_0 := X2.out.cell (i := 0) (v := .int .i64 0) rfl
              have qX2_1 := X2.out.cell (i := 1) (v := .int .i64 0) rfl
              have qX2_2 := X2.out.cell (i := 2) (v := .int .i64 0) rfl
              have qX2_3 := X2.out.cell (i := 3) (v := .int .i64 0) rfl
              have qX2_4 := X2.out.cell (i := 4) (v := .int .i64 0) rfl
              have rl_X2 := X2.out.lt
              have fz_X1 := X1.out.frozen
              have ft_X1 := X1.out.fits 5 (by simp)
              go_wp2_with fail
              exact bodyPost_row_t 5 #[.int .i64 0, .int .i64 0, .int .i64 0, .int .i64 0, .int .i64 0] (.int .i64 2) rfl rfl rfl rfl Tryz.underlying27 rfl (by kernel_rfl) (row_of_cells 4 _ rfl (by intro i hi; rcases i with _ | _ | _ | _ | _ | i; (go_simp); (go_simp); (go_simp); (go_simp); (go_simp); exact absurd hi (by omega))) ⟨by rw [EV.out]; rfl, below_byR⟩
            · by_cases hc : 70368744177664 < cc
              · have EV : Hid (R = (El.zero, 2)) := by show _ = _; rw [ER.out]; unfold ellEnd; rw [if_pos (.inr (.inr (by omega)))]
                have qX1_0 := X1.out.cell (i := 0) (v := .int .i64 0) rfl
                have qX1_1 := X1.out.cell (i := 1) (v := .int .i64 0) rfl
                have qX1_2 := X1.out.cell (i := 2) (v := .int .i64 0) rfl
                have qX1_3 := X1.out.cell (i := 3) (v := .int .i64 0) rfl
                have qX1_4 := X1.out.cell (i := 4) (v := .int .i64 0) rfl
                have rl_X1 := X1.out.lt
                have qX2_0 := X2.out.cell (i := 0) (v := .int .i64 0) rfl
                have qX2_1 := X2.out.cell (i := 1) (v := .int .i64 0) rfl
                have qX2_2 := X2.out.cell (i := 2) (v := .int .i64 0) rfl
                have qX2_3 := X2.out.cell (i := 3) (v := .int .i64 0) rfl
                have qX2_4 := X2.out.cell (i := 4) (v := .int .i64 0) rfl
                have rl_X2 := X2.out.lt
                have fz_X1 := X1.out.frozen
                have ft_X1 := X1.out.fits 5 (by simp)
                go_wp2_with fail
                exact bodyPost_row_t 5 #[.int .i64 0, .int .i64 0, .int .i64 0, .int .i64 0, .int .i64 0] (.int .i64 2) rfl rfl rfl rfl Tryz.underlying27 rfl (by kernel_rfl) (row_of_cells 4 _ rfl (by intro i hi; rcases i with _ | _ | _ | _ | _ | i; (go_simp); (go_simp); (go_simp); (go_simp); (go_simp); exact absurd hi (by omega))) ⟨by rw [EV.out]; rfl, below_byR⟩
              · obtain ⟨aa, haa⟩ : ∃ z, ca + 1 = z := ⟨_, rfl⟩
                obtain ⟨cd, hcd⟩ : ∃ z, cc + 1 = z := ⟨_, rfl⟩
                have wr1 : wrap64 (ca + 1) = aa := by rw [← haa]; have := kk.out; unfold I64 at this; unfold wrap64; omega
                have wr2 : wrap64 (cc + 1) = cd := by rw [← hcd]; have := kk.out; unfold I64 at this; unfold wrap64; omega
                obtain ⟨m, hm⟩ : ∃ m, El.may ⟨cx, cy, aa, cb, cd⟩ = m := ⟨_, rfl⟩
                obtain ⟨⟨ox, oy, oa, ob, od0⟩, f, ho⟩ : ∃ o f, growE ⟨cx, cy, aa, cb, cd⟩ 1 = (o, f) := ⟨_, _, rfl⟩
                have E1 : Hid (m = false → R = (El.zero, 2)) := by show _ → _; intro h0; rw [ER.out]; unfold ellEnd; rw [haa, hcd, hm, h0]; split <;> rfl
                have E2 : Hid (m = true → R = (⟨ox, oy, oa, ob, od0⟩, f)) := by
                  show _ → _
                  intro h0
                  rw [h0] at hm
                  have hq := (El.may_iff _).1 hm
                  simp only at hq
                  rw [ER.out]
                  unfold ellEnd
                  rw [haa, hcd, hm, if_neg (by omega), if_pos rfl, ho]
                have HM := Lib.hid hm
                have HG : Hid (∀ w, Calls Tryz.prog 65 #[elC cx cy aa cb cd, .int .i64 1] w fun e w' => e = .returned (.tuple #[elC ox oy oa ob od0, .int .i64 f]) ∧ Below w.heap.size w w') := Lib.hid (fun w => rgrow_v cx cy aa cb cd 1 ox oy oa ob od0 f ho w)
                clear hm ho haa hcd ER
                go_wp2_with fail
                obtain ⟨u27, hu⟩ : ∃ u, u = wr.alloc (Obj.cells #[.int .i64 cx, .int .i64 cy, .int .i64 aa, .int .i64 cb, .int .i64 cd] 27) := ⟨_, rfl⟩
                rw [← hu]
                obtain ⟨gXO, hg⟩ : ∃ g, wr.heap.size = g := ⟨_, rfl⟩
                have lt_X1_XO : w.heap.size + 1 < gXO := by rw [← hg]; exact X1.out.lt
                have lt_X2_XO : w.heap.size + 1 + 1 < gXO := by rw [← hg]; exact X2.out.lt
                have gw_XO : w.heap.size ≤ gXO := by rw [← hg]; exact HB.out.size
                have hb : Below wr.heap.size wr u27 := by rw [hu]; exact (Below.refl _ _).alloc (Nat.le_refl _) _
                replace X1 := Lib.hid (X1.out.keep hb)
                replace X2 := Lib.hid (X2.out.keep hb)
                replace HB := Lib.hid (HB.out.trans (hb.mono HB.out.size))
                clear hb
                have XO : Hid (Blk u27 gXO #[.int .i64 cx, .int .i64 cy, .int .i64 aa, .int .i64 cb, .int .i64 cd] 27) := by rw [hu, ← hg]; exact Blk.new _ _ _
                rw [hg]
                clear hu hg
                refine Calls.mono (rmaye_v _ _ _ _ _ _ HM.out _) ?_
                rintro e x28 ⟨rfl, hb⟩
                replace X1 := Lib.hid (X1.out.keep hb)
                replace X2 := Lib.hid (X2.out.keep hb)
                replace XO := Lib.hid (XO.out.keep hb)
                replace HB := Lib.hid (HB.out.trans (hb.mono HB.out.size))
                clear hb
                cases m with
                | false =>
                  have EV : Hid (R = (El.zero, 2)) := E1.out rfl
                  have qX1_0 := X1.out.cell (i := 0) (v := .int .i64 0) rfl
                  have qX1_1 := X1.out.cell (i := 1) (v := .int .i64 0) rfl
                  have qX1_2 := X1.out.cell (i := 2) (v := .int .i64 0) rfl
                  have qX1_3 := X1.out.cell (i := 3) (v := .int .i64 0) rfl
                  have qX1_4 := X1.out.cell (i := 4) (v := .int .i64 0) rfl
                  have rl_X1 := X1.out.lt
                  have qX2_0 := X2.out.cell (i := 0) (v := .int .i64 0) rfl
                  have qX2_1 := X2.out.cell (i := 1) (v := .int .i64 0) rfl
                  have qX2_2 := X2.out.cell (i := 2) (v := .int .i64 0) rfl
                  have qX2_3 := X2.out.cell (i := 3) (v := .int .i64 0) rfl
                  have qX2_4 := X2.out.cell (i := 4) (v := .int .i64 0) rfl
                  have rl_X2 := X2.out.lt
                  have fz_X1 := X1.out.frozen
                  have ft_X1 := X1.out.fits 5 (by simp)
                  go_wp2_with fail
                  exact bodyPost_row_t 5 #[.int .i64 0, .int .i64 0, .int .i64 0, .int .i64 0, .int .i64 0] (.int .i64 2) rfl rfl rfl rfl Tryz.underlying27 rfl (by kernel_rfl) (row_of_cells 4 _ rfl (by intro i hi; rcases i with _ | _ | _ | _ | _ | i; (go_simp); (go_simp); (go_simp); (go_simp); (go_simp); exact absurd hi (by omega))) ⟨by rw [EV.out]; rfl, below_byR⟩
                | true =>
                  have EV : Hid (R = (⟨ox, oy, oa, ob, od0⟩, f)) := E2.out rfl
                  clear E1 E2
                  have qXO_0 := XO.out.cell (i := 0) (v := .int .i64 cx) rfl
                  have qXO_1 := XO.out.cell (i := 1) (v := .int .i64 cy) rfl
                  have qXO_2 := XO.out.cell (i := 2) (v := .int .i64 aa) rfl
                  have qXO_3 := XO.out.cell (i := 3) (v := .int .i64 cb) rfl
                  have qXO_4 := XO.out.cell (i := 4) (v := .int .i64 cd) rfl
                  have rl_XO := XO.out.lt
                  go_wp2_with fail
                  clear qXO_0 qXO_1 qXO_2 qXO_3 qXO_4 rl_XO
                  refine Calls.mono (HG.out _) ?_
                  rintro e x29 ⟨rfl, hb⟩
                  replace X1 := Lib.hid (X1.out.keep hb)
                  replace X2 := Lib.hid (X2.out.keep hb)
                  replace XO := Lib.hid (XO.out.keep hb)
                  replace HB := Lib.hid (HB.out.trans (hb.mono HB.out.size))
                  clear hb
                  have qX1_0 := X1.out.cell (i := 0) (v := .int .i64 0) rfl
                  have qX1_1 := X1.out.cell (i := 1) (v := .int .i64 0) rfl
                  have qX1_2 := X1.out.cell (i := 2) (v := .int .i64 0) rfl
                  have qX1_3 := X1.out.cell (i := 3) (v := .int .i64 0) rfl
                  have qX1_4 := X1.out.cell (i := 4) (v := .int .i64 0) rfl
                  have rl_X1 := X1.out.lt
                  have fz_X1 := X1.out.frozen
                  have ft_X1 := X1.out.fits 5 (by simp)
                  go_wp2_with fail
                  exact bodyPost_row_t 5 #[.int .i64 ox, .int .i64 oy, .int .i64 oa, .int .i64 ob, .int .i64 od0] (.int .i64 f) rfl rfl rfl rfl Tryz.underlying27 rfl (by kernel_rfl) (row_of_cells 4 _ rfl (by intro i hi; rcases i with _ | _ | _ | _ | _ | i; (go_simp); (go_simp); (go_simp); (go_simp); (go_simp); exact absurd hi (by omega))) ⟨by rw [EV.out], below_byR⟩
end Go.Proofs.YtnoidlacjiafdaaGreat
