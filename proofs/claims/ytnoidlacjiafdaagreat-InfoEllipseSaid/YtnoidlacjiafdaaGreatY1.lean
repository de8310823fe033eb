/- The document's numbers by letters; big, dot. -/
import Derived.Test.YtnoidlacjiafdaaGreatRE
import Derived.Test.YtnoidlacjiafdaaGreatS0
namespace Go.Proofs.YtnoidlacjiafdaaGreat
set_option linter.unusedSimpArgs false
set_option linter.unusedVariables false
set_option linter.unusedSimpArgs false
open Go.RowKit

theorem BigIs.lettered {w : World} {v : Value} {x : WI} (h : BigIs w v x) : ∃ n o A l k, v = .agg #[.bool n, .bool o, .slice A l k] ∧ BigIs w (.agg #[.bool n, .bool o, .slice A l k]) x := by
  obtain ⟨A, cap, rfl, hr⟩ := h.opened
  exact ⟨_, _, _, _, _, rfl, BigIs.mk hr⟩
theorem Rd.only {w w' : World} {s : Value} {xs : List Nat} {g : Nat} (h : Rd w s xs) (ho : OnlyAt g w w') {c : Array Value} {t : TypeId} (hB : Blk w g c t) (hn : ∀ (i : Nat) (n : Int), c[i]? ≠ some (.int .u32 n)) : Rd w' s xs := by
  obtain ⟨hd, h | ⟨b, o', cap, hs, h1, h2, h3, h4⟩⟩ := h
  · exact ⟨hd, .inl h⟩
  · by_cases hx : xs.length = 0
    · obtain rfl : xs = [] := List.length_eq_zero_iff.1 hx
      refine ⟨hd, .inr ⟨b, o', cap, hs, h1, h2, Nat.lt_of_lt_of_le h3 ho.size, fun i hi => absurd hi (Nat.not_lt_zero i)⟩⟩
    · have hbg : b ≠ g := by
        rintro rfl
        have := h4 0 (by omega)
        rw [hB.at] at this
        exact hn _ _ this
      refine ⟨hd, .inr ⟨b, o', cap, hs, h1, h2, Nat.lt_of_lt_of_le h3 ho.size, fun i hi => ?_⟩⟩
      rw [World.cell?_of_block (w := w) (ho.block b h3 hbg)]
      exact h4 i hi
theorem BigIs.only {w w' : World} {v : Value} {x : WI} {g : Nat} (h : BigIs w v x) (ho : OnlyAt g w w') {c : Array Value} {t : TypeId} (hB : Blk w g c t) (hn : ∀ (i : Nat) (n : Int), c[i]? ≠ some (.int .u32 n)) : BigIs w' v x := by
  obtain ⟨s, hs, hr⟩ := h; exact ⟨s, hs, hr.only ho hB hn⟩
theorem big_no (n o : Bool) (A : Option Addr) (l k : Nat) : ∀ (i : Nat) (m : Int), (#[.bool n, .bool o, .slice A l k] : Array Value)[i]? ≠ some (.int .u32 m) := by
  intro i m e
  rcases i with _ | _ | _ | i
  · cases e
  · cases e
  · cases e
  · simp at e
theorem Blk.set3 {w : World} {g : Nat} {a b c : Value} {t : TypeId} (h : Blk w g #[a, b, c] t) (x y z : Value) : Blk (((w.setCell ⟨g, 0, none⟩ x).setCell ⟨g, 1, none⟩ y).setCell ⟨g, 2, none⟩ z) g #[x, y, z] t :=
  ((h.setCell_same 0 x).setCell_same 1 y).setCell_same 2 z
theorem OnlyAt.set3 {w w' : World} {g : Nat} (h : OnlyAt g w w') (x y z : Value) : OnlyAt g w (((w'.setCell ⟨g, 0, none⟩ x).setCell ⟨g, 1, none⟩ y).setCell ⟨g, 2, none⟩ z) := ((h.setCell 0 x).setCell 1 y).setCell 2 z
theorem big_info : (Tryz.prog.info? 52).map (·.size) = some 3 := by kernel_rfl
/-- The end of a walk whose result is a Big. -/
theorem bodyPost_big {fn : Func} {R : Ending → World → Prop} {a : Act} {w : World} {p : Tmp} {g : Nat} {c : Array Value}
    (hf : fn.results = #[.cell p 52]) (hde : a.defers = []) (hp : a.tmps.getD p undef = .pointer (some ⟨g, 0, none⟩)) (hc : w.row? g 0 3 = some c) (hR : R (.returned (.agg c)) w) : bodyPost Tryz.prog fn R .ret a w :=
  bodyPost_row 3 c hf hde hp Tryz.underlying52 rfl big_info hc hR
-- DOT
set_option maxRecDepth 100000 in
set_option maxHeartbeats 4000000 in
/-- big. -/
theorem rbig_r (n : Int) (h1 : -9223372036854775808 ≤ n) (h2 : n ≤ 9223372036854775807) (w : World) :
    Calls Tryz.prog 25 #[.int .i64 n] w fun e w' => (∃ v, e = .returned v ∧ BigIs w' v (WI.of n)) ∧ Below w.heap.size w w' := by
  go_enter Tryz.func25, Tryz.ntmps25
  go_wp2_with fail
  obtain ⟨u0, hu0⟩ : ∃ u, u = (w).alloc (Obj.cells #[.bool false, .bool false, .slice none 0 0] 52) := ⟨_, rfl⟩
  rw [← hu0]
  have HB : Hid (Below w.heap.size w u0) := by rw [hu0]; show Below w.heap.size w _; exact below_byR
  have X0 : Hid (Blk u0 (w.heap.size) #[.bool false, .bool false, .slice none 0 0] 52) := by rw [hu0]; exact Blk.new' _ _ _ (by simp)
  clear hu0
  refine Calls.mono (of_r n h1 h2 _) ?_
  rintro e x1 ⟨⟨v, rfl, hv⟩, hb⟩
  obtain ⟨na, oa, Aa, la, ka, rfl, ha⟩ := hv.lettered
  have Ca := Lib.hid ha
  clear hv ha
  replace X0 := Lib.hid (X0.out.keep hb)
  replace HB := Lib.hid (HB.out.trans (hb.mono HB.out.size))
  clear hb
  have qX0_0 := X0.out.cell (i := 0) (v := .bool false) rfl
  have qX0_1 := X0.out.cell (i := 1) (v := .bool false) rfl
  have qX0_2 := X0.out.cell (i := 2) (v := .slice none 0 0) rfl
  have rl_X0 := X0.out.lt
  have fz_X0 := X0.out.frozen
  have ft_X0 := X0.out.fits 3 (by simp)
  go_wp2_with fail
  clear qX0_0 qX0_1 qX0_2 rl_X0 fz_X0 ft_X0
  obtain ⟨v2, hv⟩ : ∃ v, v = ((x1.setCell ⟨w.heap.size, 0, none⟩ (.bool na)).setCell ⟨w.heap.size, 1, none⟩ (.bool oa)).setCell ⟨w.heap.size, 2, none⟩ (.slice Aa la ka) := ⟨_, rfl⟩
  rw [← hv]
  have ho : OnlyAt (w.heap.size) x1 v2 := by rw [hv]; exact OnlyAt.refl.set3 _ _ _
  have hn := hv
  replace Ca := Lib.hid (Ca.out.only ho X0.out (big_no _ _ _ _ _))
  replace HB := Lib.hid (OnlyAt.below ho HB.out (Nat.le_refl _) (by omega))
  replace X0 : Hid (Blk v2 (w.heap.size) #[.bool na, .bool oa, .slice Aa la ka] 52) := by rw [hv]; exact X0.out.set3 _ _ _
  clear ho hn hv
  exact bodyPost_big rfl rfl rfl (X0.out.row?_all 3 rfl) ⟨⟨_, rfl, Ca.out⟩, HB.out⟩
set_option maxRecDepth 100000 in
set_option maxHeartbeats 4000000 in
/-- dot. -/
theorem rdot_r (a x b y : Value) (p q r s : WI) (w : World) (ha : BigIs w a p) (hx : BigIs w x q) (hb : BigIs w b r) (hy : BigIs w y s) :
    Calls Tryz.prog 59 #[a, x, b, y] w fun e w' => (∃ v, e = .returned v ∧ BigIs w' v ((p.mul q).add (r.mul s))) ∧ Below w.heap.size w w' := by
  obtain ⟨n0, o0, A0, l0, k0, rfl, h0⟩ := ha.lettered
  have C0 := Lib.hid h0
  clear h0
  obtain ⟨n1, o1, A1, l1, k1, rfl, h1⟩ := hx.lettered
  have C1 := Lib.hid h1
  clear h1
  obtain ⟨n2, o2, A2, l2, k2, rfl, h2⟩ := hb.lettered
  have C2 := Lib.hid h2
  clear h2
  obtain ⟨n3, o3, A3, l3, k3, rfl, h3⟩ := hy.lettered
  have C3 := Lib.hid h3
  clear h3
  clear ha hx hb hy
  obtain ⟨z, hz⟩ : ∃ z, (p.mul q).add (r.mul s) = z := ⟨_, rfl⟩
  have HZ := Lib.hid hz
  rw [hz]
  clear hz
  go_enter Tryz.func59, Tryz.ntmps59
  go_wp2_with fail
  obtain ⟨u0, hu0⟩ : ∃ u, u = (((((w).alloc (Obj.cells #[.bool n0, .bool o0, .slice A0 l0 k0] 52)).alloc (Obj.cells #[.bool n1, .bool o1, .slice A1 l1 k1] 52)).alloc (Obj.cells #[.bool n2, .bool o2, .slice A2 l2 k2] 52)).alloc (Obj.cells #[.bool n3, .bool o3, .slice A3 l3 k3] 52)).alloc (Obj.cells #[.bool false, .bool false, .slice none 0 0] 52) := ⟨_, rfl⟩
  rw [← hu0]
  have HB : Hid (Below w.heap.size w u0) := by rw [hu0]; show Below w.heap.size w _; exact below_byR
  have X0 : Hid (Blk u0 (w.heap.size) #[.bool n0, .bool o0, .slice A0 l0 k0] 52) := by rw [hu0]; exact ((((Blk.new' _ _ _ (by simp)).alloc _).alloc _).alloc _).alloc _
  have X1 : Hid (Blk u0 (w.heap.size + 1) #[.bool n1, .bool o1, .slice A1 l1 k1] 52) := by rw [hu0]; exact (((Blk.new' _ _ _ (by simp)).alloc _).alloc _).alloc _
  have X2 : Hid (Blk u0 (w.heap.size + 1 + 1) #[.bool n2, .bool o2, .slice A2 l2 k2] 52) := by rw [hu0]; exact ((Blk.new' _ _ _ (by simp)).alloc _).alloc _
  have X3 : Hid (Blk u0 (w.heap.size + 1 + 1 + 1) #[.bool n3, .bool o3, .slice A3 l3 k3] 52) := by rw [hu0]; exact (Blk.new' _ _ _ (by simp)).alloc _
  have X4 : Hid (Blk u0 (w.heap.size + 1 + 1 + 1 + 1) #[.bool false, .bool false, .slice none 0 0] 52) := by rw [hu0]; exact Blk.new' _ _ _ (by simp)
  replace C0 := Lib.hid (C0.out.below (show Below w.heap.size w u0 from HB.out))
  replace C1 := Lib.hid (C1.out.below (show Below w.heap.size w u0 from HB.out))
  replace C2 := Lib.hid (C2.out.below (show Below w.heap.size w u0 from HB.out))
  replace C3 := Lib.hid (C3.out.below (show Below w.heap.size w u0 from HB.out))
  clear hu0
  have qX0_0 := @inh_cell _ _ _ (show u0.cell? _ = some (.bool n0) from X0.out.cell (i := 0) rfl)
  have qX0_1 := @inh_cell _ _ _ (show u0.cell? _ = some (.bool o0) from X0.out.cell (i := 1) rfl)
  have qX0_2 := @inh_cell _ _ _ (show u0.cell? _ = some (.slice A0 l0 k0) from X0.out.cell (i := 2) rfl)
  have qX1_0 := @inh_cell _ _ _ (show u0.cell? _ = some (.bool n1) from X1.out.cell (i := 0) rfl)
  have qX1_1 := @inh_cell _ _ _ (show u0.cell? _ = some (.bool o1) from X1.out.cell (i := 1) rfl)
  have qX1_2 := @inh_cell _ _ _ (show u0.cell? _ = some (.slice A1 l1 k1) from X1.out.cell (i := 2) rfl)
  have qX2_0 := @inh_cell _ _ _ (show u0.cell? _ = some (.bool n2) from X2.out.cell (i := 0) rfl)
  have qX2_1 := @inh_cell _ _ _ (show u0.cell? _ = some (.bool o2) from X2.out.cell (i := 1) rfl)
  have qX2_2 := @inh_cell _ _ _ (show u0.cell? _ = some (.slice A2 l2 k2) from X2.out.cell (i := 2) rfl)
  have qX3_0 := @inh_cell _ _ _ (show u0.cell? _ = some (.bool n3) from X3.out.cell (i := 0) rfl)
  have qX3_1 := @inh_cell _ _ _ (show u0.cell? _ = some (.bool o3) from X3.out.cell (i := 1) rfl)
  have qX3_2 := @inh_cell _ _ _ (show u0.cell? _ = some (.slice A3 l3 k3) from X3.out.cell (i := 2) rfl)
  have HL : Hid (Below u0.heap.size u0 u0.drew) := (Below.refl _ _).drew
  refine wp_region_ghost' 7 (fun k => match k with | 2 => some (gBig (p.mul q)) | 5 => some (gBig (r.mul s)) | 6 => some (gBig z) | _ => none) (fun k => match k with | 6 => [2, 5] | _ => []) (by kernel_rfl) (by kernel_rfl) ?_; refine ex_listH ?_; apply Exists.intro; refine ex_listH ?_; apply Exists.intro; refine ex_listH ⟨undef, ?_⟩; refine ex_listH ?_; apply Exists.intro; refine ex_listH ?_; apply Exists.intro; refine ex_listH ⟨undef, ?_⟩; refine ex_listH ⟨undef, ?_⟩; refine ⟨[], fun gg NN hN => ?_⟩; simp only [List.append_eq, List.cons_append, List.nil_append, List.take_succ_cons, List.take_zero, List.drop_succ_cons, List.drop_zero]; (repeat (refine lexH_quiet rfl ?_; go_big_quiet_step (first | exact rfl | (fail)); refine wpQuiet_nil ⟨?hd, ?_⟩; (case hd => (simp only [dstVh, Array.getD_eq_getD_getElem?, List.getElem?_toArray, List.getElem?_cons_zero, List.getElem?_cons_succ, Option.getD_some, List.getD_cons_zero, List.getD_cons_succ]; exact rfl)))); (refine lexH_ghost _ (by rfl) (by rfl) ?hex ?_; (case hex => (intro px; refine ghost_call (fn := 28) (by go_simp; rfl) ?_; exact mul_r _ _ _ _ _ (C0.out.below (inh_low HL.out px)) (C1.out.below (inh_low HL.out px)))); simp only [Act.put, List.setIfInBounds_toArray, List.set_cons_succ, List.set_cons_zero]); (repeat (refine lexH_quiet rfl ?_; go_big_quiet_step (first | exact rfl | (fail)); refine wpQuiet_nil ⟨?hd, ?_⟩; (case hd => (simp only [dstVh, Array.getD_eq_getD_getElem?, List.getElem?_toArray, List.getElem?_cons_zero, List.getElem?_cons_succ, Option.getD_some, List.getD_cons_zero, List.getD_cons_succ]; exact rfl)))); (refine lexH_ghost _ (by rfl) (by rfl) ?hex ?_; (case hex => (intro px; refine ghost_call (fn := 28) (by go_simp; rfl) ?_; exact mul_r _ _ _ _ _ (C2.out.below (inh_low HL.out px)) (C3.out.below (inh_low HL.out px)))); simp only [Act.put, List.setIfInBounds_toArray, List.set_cons_succ, List.set_cons_zero]); (refine lexH_ghost _ (by rfl) (by rfl) ?hex ?_; (case hex => (intro px; refine ghost_call (fn := 43) (by go_simp; rfl) ?_; exact add_x _ _ _ _ _ _ HZ (px.has 2 (hN 6 2 (by simp)) _ rfl) (px.has 5 (hN 6 5 (by simp)) _ rfl))); simp only [Act.put, List.setIfInBounds_toArray, List.set_cons_succ, List.set_cons_zero])
  refine lexH_nil ?_
  intro x1 hb' hh
  have hb : Below u0.heap.size u0 x1 := hb'
  clear hb' HL
  clear qX0_0 qX0_1 qX0_2 qX1_0 qX1_1 qX1_2 qX2_0 qX2_1 qX2_2 qX3_0 qX3_1 qX3_2
  replace X0 := Lib.hid (X0.out.keep hb)
  replace X1 := Lib.hid (X1.out.keep hb)
  replace X2 := Lib.hid (X2.out.keep hb)
  replace X3 := Lib.hid (X3.out.keep hb)
  replace X4 := Lib.hid (X4.out.keep hb)
  replace C0 := Lib.hid (C0.out.below hb)
  replace C1 := Lib.hid (C1.out.below hb)
  replace C2 := Lib.hid (C2.out.below hb)
  replace C3 := Lib.hid (C3.out.below hb)
  replace HB := Lib.hid (HB.out.trans (hb.mono HB.out.size))
  clear hb
  obtain ⟨n4, o4, A4, l4, k4, e6, h4⟩ := (show BigIs x1 (gg 6) z from hh 6 _ (by decide) rfl).lettered
  have C4 := Lib.hid h4
  rw [e6]
  clear h4 e6
  clear hh
  have qX4_0 := X4.out.cell (i := 0) (v := .bool false) rfl
  have qX4_1 := X4.out.cell (i := 1) (v := .bool false) rfl
  have qX4_2 := X4.out.cell (i := 2) (v := .slice none 0 0) rfl
  have rl_X4 := X4.out.lt
  have fz_X4 := X4.out.frozen
  have ft_X4 := X4.out.fits 3 (by simp)
  go_wp2_with fail
  clear qX4_0 qX4_1 qX4_2 rl_X4 fz_X4 ft_X4
  obtain ⟨v2, hv⟩ : ∃ v, v = ((x1.setCell ⟨w.heap.size + 1 + 1 + 1 + 1, 0, none⟩ (.bool n4)).setCell ⟨w.heap.size + 1 + 1 + 1 + 1, 1, none⟩ (.bool o4)).setCell ⟨w.heap.size + 1 + 1 + 1 + 1, 2, none⟩ (.slice A4 l4 k4) := ⟨_, rfl⟩
  rw [← hv]
  have ho : OnlyAt (w.heap.size + 1 + 1 + 1 + 1) x1 v2 := by rw [hv]; exact OnlyAt.refl.set3 _ _ _
  have hn := hv
  replace C0 := Lib.hid (C0.out.only ho X4.out (big_no _ _ _ _ _))
  replace C1 := Lib.hid (C1.out.only ho X4.out (big_no _ _ _ _ _))
  replace C2 := Lib.hid (C2.out.only ho X4.out (big_no _ _ _ _ _))
  replace C3 := Lib.hid (C3.out.only ho X4.out (big_no _ _ _ _ _))
  replace C4 := Lib.hid (C4.out.only ho X4.out (big_no _ _ _ _ _))
  replace X0 := Lib.hid (ho.blk X0.out (by omega))
  replace X1 := Lib.hid (ho.blk X1.out (by omega))
  replace X2 := Lib.hid (ho.blk X2.out (by omega))
  replace X3 := Lib.hid (ho.blk X3.out (by omega))
  replace HB := Lib.hid (OnlyAt.below ho HB.out (Nat.le_refl _) (by omega))
  replace X4 : Hid (Blk v2 (w.heap.size + 1 + 1 + 1 + 1) #[.bool n4, .bool o4, .slice A4 l4 k4] 52) := by rw [hv]; exact X4.out.set3 _ _ _
  clear ho hn hv
  exact bodyPost_big rfl rfl rfl (X4.out.row?_all 3 rfl) ⟨⟨_, rfl, C4.out⟩, HB.out⟩
theorem rdot_x (a x b y : Value) (p q r s z : WI) (w : World) (hz : Hid ((p.mul q).add (r.mul s) = z)) (ha : BigIs w a p) (hx : BigIs w x q) (hb : BigIs w b r) (hy : BigIs w y s) :
    Calls Tryz.prog 59 #[a, x, b, y] w fun e w' => (∃ v, e = .returned v ∧ BigIs w' v z) ∧ Below w.heap.size w w' := by
  rw [← hz.out]; exact rdot_r a x b y p q r s w ha hx hb hy
end Go.Proofs.YtnoidlacjiafdaaGreat
