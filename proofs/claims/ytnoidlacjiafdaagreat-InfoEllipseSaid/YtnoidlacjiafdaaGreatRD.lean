/- The document's numbers in blocks of one's own. The walk of the law's Of: numbers of parts, of the program and of the document. -/
import Derived.Test.YtnoidlacjiafdaaGreatRC
namespace Go.Proofs.YtnoidlacjiafdaaGreat
set_option linter.unusedSimpArgs false
set_option linter.unusedVariables false
set_option linter.unusedSimpArgs false
open Go.RowKit

/-- The end of a walk whose results are two rows of cells. -/
theorem bodyPost_rr {P : Program} {fn : Func} {R : Ending → World → Prop} {a : Act} {w : World} {p q : Tmp} {ty tz : TypeId} {g h : Nat} (n m : Nat) (cs ds : Array Value) {d f : TypeDesc}
    (hf : fn.results = #[.cell p ty, .cell q tz]) (hde : a.defers = []) (hp : a.tmps.getD p undef = .pointer (some ⟨g, 0, none⟩)) (hq : a.tmps.getD q undef = .pointer (some ⟨h, 0, none⟩))
    (hu : P.underlying ty = some d) (hd : d.isRow = true) (hi : (P.info? ty).map (·.size) = some n) (hg : w.row? g 0 n = some cs)
    (hu' : P.underlying tz = some f) (hd' : f.isRow = true) (hi' : (P.info? tz).map (·.size) = some m) (hg' : w.row? h 0 m = some ds) (hR : R (.returned (.tuple #[.agg cs, .agg ds])) w) :
    bodyPost P fn R .ret a w := by
  refine bodyPost_ret (v := .tuple #[.agg cs, .agg ds]) ?_ hde hR
  have hp' : a.tmps[p]?.getD undef = .pointer (some ⟨g, 0, none⟩) := by simpa using hp
  have hq' : a.tmps[q]?.getD undef = .pointer (some ⟨h, 0, none⟩) := by simpa using hq
  simp [results, hf, hp', hq', asAddr, Result.andThen, run_loadVar_row? w g 0 n ty cs d hu hd hi hg, run_loadVar_row? w h 0 m tz ds f hu' hd' hi' hg']
theorem mul_x (a b : Value) (x y z : WI) (w : World) (hz : Hid (x.mul y = z)) (ha : BigIs w a x) (hb : BigIs w b y) :
    Calls Tryz.prog 28 #[a, b] w fun e w' => (∃ v, e = .returned v ∧ BigIs w' v z) ∧ Below w.heap.size w w' := by
  rw [← hz.out]; exact mul_r a b x y w ha hb
/-- A row that holds no words turned as a whole. -/
theorem Rd.putRow {w : World} {s : Value} {xs : List Nat} (h : Rd w s xs) {g : Nat} {cs : Array Value} {t : TypeId} (hB : Blk w g cs t) (hn : ∀ i : Nat, ∀ n, cs[i]? ≠ some (.int .u32 n)) (o : Nat) (ds : Array Value) : Rd (w.putRow g o ds) s xs := by
  obtain ⟨hd, h | ⟨b, o', cap, hs, h1, h2, h3, h4⟩⟩ := h
  · exact ⟨hd, .inl h⟩
  · refine ⟨hd, .inr ⟨b, o', cap, hs, h1, h2, by simpa using h3, fun i hi => ?_⟩⟩
    rw [cell?_putRow_other]
    · exact h4 i hi
    · rintro rfl
      have := h4 i hi
      rw [hB.at] at this
      exact hn _ _ this
theorem cellsI_nou32 (a b : Bool) (N : Nat) (i : Nat) (n : Int) : (cellsI a b N)[i]? ≠ some (.int .u32 n) := by
  intro h
  have hi : i < 18 := by
    rcases Nat.lt_or_ge i 18 with h1 | h1
    · exact h1
    · rw [Array.getElem?_eq_none (by simpa using h1)] at h; cases h
  rcases i with _ | _ | i
  · rw [cellsI_0] at h; cases h
  · rw [cellsI_1] at h; cases h
  · rw [show i + 1 + 1 = 2 + i by omega, cellsI_word _ _ _ _ (by omega)] at h; cases h
theorem shift_x (a : Value) (x z : WI) (k : Int) (w : World) (hz : Hid (x.shl k = z)) (ha : BigIs w a x) :
    Calls Tryz.prog 45 #[a, .int .i64 k] w fun e w' => (∃ v, e = .returned v ∧ BigIs w' v z) ∧ Below w.heap.size w w' := by
  rw [← hz.out]; exact shift_r a x k w ha
theorem WI.cells_nou32 (x : WI) (i : Nat) (n : Int) : x.cells[i]? ≠ some (.int .u32 n) := by
  intro h
  have hi : i < 18 := by
    rcases Nat.lt_or_ge i 18 with h1 | h1
    · exact h1
    · rw [Array.getElem?_eq_none (by simpa using h1)] at h; cases h
  rcases i with _ | _ | i
  · rw [WI.cells_0] at h; cases h
  · rw [WI.cells_1] at h; cases h
  · rw [x.cells_eq, show i + 1 + 1 = 2 + i by omega, cellsI_word _ _ _ _ (by omega)] at h; cases h
/-- A Big's cells. -/
def bigC (x : WI) (A : Option Addr) (c : Nat) : Array Value := #[.bool x.ng, .bool x.ov, .slice A (dg x.sz).length c]
/-- A Big lies in a block. -/
def BigAt (w : World) (g : Nat) (x : WI) : Prop := ∃ A c, Blk w g (bigC x A c) 52 ∧ Rd w (.slice A (dg x.sz).length c) (dg x.sz)
theorem BigAt.keep {w w' : World} {g : Nat} {x : WI} (h : BigAt w g x) (hb : Below w.heap.size w w') : BigAt w' g x := by
  obtain ⟨A, c, h1, h2⟩ := h; exact ⟨A, c, h1.keep hb, h2.below hb⟩
theorem BigAt.put {w : World} {g : Nat} {x : WI} (h : BigAt w g x) {y : WI} {s : Value} (hs : Rd w s (dg y.sz)) :
    BigAt (((w.setCell ⟨g, 0, none⟩ (.bool y.ng)).setCell ⟨g, 1, none⟩ (.bool y.ov)).setCell ⟨g, 2, none⟩ s) g y := by
  obtain ⟨A, c, h1, -⟩ := h
  obtain ⟨A', c', rfl⟩ := hs.form
  exact ⟨A', c', ((h1.setCell_same 0 _).setCell_same 1 _).setCell_same 2 _, hs.set3 (h1.cell (i := 0) rfl) (h1.cell (i := 1) rfl) (h1.cell (i := 2) rfl) _ _ _⟩
theorem BigAt.putRow {w : World} {g b : Nat} {x : WI} (h : BigAt w g x) {cs : Array Value} {t : TypeId} (hB : Blk w b cs t) (hn : ∀ i : Nat, ∀ n, cs[i]? ≠ some (.int .u32 n)) (hne : g ≠ b) (ds : Array Value) : BigAt (w.putRow b 0 ds) g x := by
  obtain ⟨A, c, h1, h2⟩ := h; exact ⟨A, c, h1.putRow_other hne _ _, h2.putRow hB hn _ _⟩
end Go.Proofs.YtnoidlacjiafdaaGreat
namespace Go.Proofs.YtnoidlacjiafdaaGreat
set_option linter.unusedSimpArgs false
open Go.RowKit

/-- Numbers of 64 bits at a slice. -/
def NumsAt (w : World) (A : Option Addr) (len : Nat) (T : Nat → Int) : Prop :=
  ∀ i, i < len → ∃ b o, A = some ⟨b, o, none⟩ ∧ b < w.heap.size ∧ w.cell? ⟨b, o + i, none⟩ = some (.int .i64 (T i)) ∧ -9223372036854775808 ≤ T i ∧ T i ≤ 9223372036854775807
theorem NumsAt.below {w w' : World} {A : Option Addr} {len : Nat} {T : Nat → Int} (h : NumsAt w A len T) (hb : Below w.heap.size w w') : NumsAt w' A len T := fun i hi => by
  obtain ⟨b, o, e, h1, h2, h3⟩ := h i hi
  exact ⟨b, o, e, Nat.lt_of_lt_of_le h1 hb.size, (hb.cell (p := ⟨b, _, none⟩) h1).trans h2, h3⟩
/-- The parts put together. -/
def partsZ (T : Nat → Int) : Nat → WI
  | 0 => WI.of 0
  | k + 1 => ((partsZ T k).mul (WI.of 4611686018427387904)).add (WI.of (T k))
/-- A law's number: the parts, put together, shifted. -/
def NumIs (w : World) (v : Value) (z : WI) : Prop := ∃ A len cap T K, v = .agg #[.slice A len cap, .int .i64 K] ∧ -9223372036854775808 ≤ K ∧ len ≤ 9223372036854775807 ∧ NumsAt w A len T ∧ z = (partsZ T (min len 17)).shl K
theorem NumIs.below {w w' : World} {v : Value} {z : WI} (h : NumIs w v z) (hb : Below w.heap.size w w') : NumIs w' v z := by
  obtain ⟨A, len, cap, T, K, h1, h2, h3, h4, h5⟩ := h
  exact ⟨A, len, cap, T, K, h1, h2, h3, h4.below hb, h5⟩
set_option maxRecDepth 100000 in
set_option maxHeartbeats 4000000 in
theorem lawOf_r (v : Value) (z : WI) (w : World) (h : NumIs w v z) :
    Calls Tryz.prog 12 #[v] w fun e w' => (∃ b, e = .returned (.tuple #[.agg z.cells, b]) ∧ BigIs w' b z) ∧ Below w.heap.size w w' := by
  obtain ⟨A, len, cap, T, K, rfl, hK, hlen, hT, hz0⟩ := h
  have HZ0 := Lib.hid hz0
  clear hz0
  have HT := Lib.hid hT
  have HK := Lib.hid hK
  clear hT hK
  go_enter Tryz.func12, Tryz.ntmps12
  go_wp2_with fail
  refine (of_c 0 (by decide) (by decide) _).mono ?_; rintro e w1 ⟨rfl, hb1⟩; have z_w1 := hb1.size; (try simp at z_w1); obtain ⟨y_w1_0_0, c_w1_0_0, f_w1_0_0, r_w1_0_0, t_w1_0_0, p_w1_0_0⟩ := bq hb1 (w.heap.size); obtain ⟨y_w1_0_1, c_w1_0_1, f_w1_0_1, r_w1_0_1, t_w1_0_1, p_w1_0_1⟩ := bq hb1 (w.heap.size + 1); obtain ⟨y_w1_0_2, c_w1_0_2, f_w1_0_2, r_w1_0_2, t_w1_0_2, p_w1_0_2⟩ := bq hb1 (w.heap.size + 1 + 1)
  have B0 : Hid (Blk w1 w.heap.size #[.slice A len cap, .int .i64 K] 40) := Blk.keep (((Blk.new w _ _).alloc _).alloc _) hb1
  have B1 : Hid (Blk w1 (w.heap.size + 1) (cellsI false false 0) 47) := Blk.keep ((Blk.new' _ _ _ (by simp)).alloc _) hb1
  have B2 : Hid (Blk w1 (w.heap.size + 1 + 1) #[.bool false, .bool false, .slice none 0 0] 52) := Blk.keep (Blk.new' _ _ _ (by simp)) hb1
  have HB1 : Hid (Below w.heap.size w w1) := below_by
  go_wp2_with fail
  refine (of_r 0 (by decide) (by decide) _).mono ?_; rintro e w2 ⟨⟨v, rfl, hv⟩, hb2⟩; have z_w2 := hb2.size; (try simp at z_w2); obtain ⟨y_w2_0_0, c_w2_0_0, f_w2_0_0, r_w2_0_0, t_w2_0_0, p_w2_0_0⟩ := bq hb2 (w.heap.size); obtain ⟨y_w2_0_1, c_w2_0_1, f_w2_0_1, r_w2_0_1, t_w2_0_1, p_w2_0_1⟩ := bq hb2 (w.heap.size + 1); obtain ⟨y_w2_0_2, c_w2_0_2, f_w2_0_2, r_w2_0_2, t_w2_0_2, p_w2_0_2⟩ := bq hb2 (w.heap.size + 1 + 1)
  obtain ⟨A0, c0, rfl, hs0⟩ := hv.opened
  have HS0 := Lib.hid hs0
  have HB2 : Hid (Below w.heap.size w w2) := HB1.out.trans (hb2.mono HB1.out.size)
  have B0' := Lib.hid (B0.out.keep hb2)
  have B1' := Lib.hid (B1.out.keep hb2)
  have B2' := Lib.hid (B2.out.keep hb2)
  have hz2 : w.heap.size + 1 + 1 + 1 ≤ w2.heap.size := by omega
  clear hv hs0 B0 B1 B2
  go_wp2_with fail
  obtain ⟨w3, hw3⟩ : ∃ w3, w3 = (w2.alloc (Obj.cells (WI.of 0).cells 47)).alloc (Obj.cells #[.bool (WI.of 0).ng, .bool (WI.of 0).ov, .slice A0 (dg (WI.of 0).sz).length c0] 52) := ⟨_, rfl⟩
  rw [← hw3]
  obtain ⟨g, hg⟩ : ∃ g, g = w2.heap.size := ⟨_, rfl⟩
  have C0 : Hid (Blk w3 w.heap.size #[.slice A len cap, .int .i64 K] 40) := by rw [hw3]; exact (B0'.out.alloc _).alloc _
  have C1 : Hid (Blk w3 (w.heap.size + 1) (cellsI false false 0) 47) := by rw [hw3]; exact (B1'.out.alloc _).alloc _
  have C2 : Hid (Blk w3 (w.heap.size + 1 + 1) #[.bool false, .bool false, .slice none 0 0] 52) := by rw [hw3]; exact (B2'.out.alloc _).alloc _
  have CG : Hid (Blk w3 g (partsZ T 0).cells 47) := by rw [hw3, hg]; exact (Blk.new _ _ _).alloc _
  have CB : Hid (BigAt w3 (g + 1) (partsZ T 0)) := by rw [hw3, hg]; exact ⟨A0, c0, Blk.new' _ _ _ (by simp), (HS0.out.below below_by)⟩
  have HB3 : Hid (Below w.heap.size w w3) := by rw [hw3]; exact (HB2.out.alloc HB2.out.size _).alloc (by have := HB2.out.size; simp; omega) _
  rw [← hg]
  have hz3 : w.heap.size + 1 + 1 + 1 ≤ g := by omega
  clear z_w1 y_w1_0_0 c_w1_0_0 f_w1_0_0 r_w1_0_0 t_w1_0_0 p_w1_0_0 y_w1_0_1 c_w1_0_1 f_w1_0_1 r_w1_0_1 t_w1_0_1 p_w1_0_1 y_w1_0_2 c_w1_0_2 f_w1_0_2 r_w1_0_2 t_w1_0_2 p_w1_0_2
  clear z_w2 y_w2_0_0 c_w2_0_0 f_w2_0_0 r_w2_0_0 t_w2_0_0 p_w2_0_0 y_w2_0_1 c_w2_0_1 f_w2_0_1 r_w2_0_1 t_w2_0_1 p_w2_0_1 y_w2_0_2 c_w2_0_2 f_w2_0_2 r_w2_0_2 t_w2_0_2 p_w2_0_2
  clear hw3 HS0 B0' B1' B2' hb1 hb2 hg hz2
  go_loopw [13] (fun t13 wr => ∃ k : Nat, k ≤ min len 17 ∧ t13 = .int .i64 k ∧ Hid (Blk wr w.heap.size #[.slice A len cap, .int .i64 K] 40) ∧ Hid (Blk wr (w.heap.size + 1) (cellsI false false 0) 47) ∧ Hid (Blk wr (w.heap.size + 1 + 1) #[.bool false, .bool false, .slice none 0 0] 52) ∧ Hid (Blk wr g (partsZ T k).cells 47) ∧ Hid (BigAt wr (g + 1) (partsZ T k)) ∧ Hid (Below w.heap.size w wr)) (fun t13 _ => min len 17 - (intOf t13).toNat)
  case atStart => exact ⟨0, Nat.zero_le _, rfl, C0, C1, C2, CG, CB, HB3⟩
  case round =>
    clear C0 C1 C2 CG CB HB3
    obtain ⟨k, hk, rfl, C0, C1, C2, CG, CB, HB⟩ := hrel
    have ne0 : ¬ (w.heap.size = g) := by omega
    have ne1 : ¬ (w.heap.size + 1 = g) := by omega
    have ne2 : ¬ (w.heap.size + 1 + 1 = g) := by omega
    have gw : w.heap.size ≤ g := by omega
    by_cases hend : k = min len 17
    · have HZ : Hid ((partsZ T k).shl K = z) := by rw [HZ0.out, hend]; exact rfl
      have hor : (¬ (k : Int) < (len : Int)) ∨ (k < len ∧ (17 : Int) ≤ (k : Int)) := by omega
      clear hend hk
      have cK := @inh_cell _ _ _ (C0.out.cell (i := 1) rfl)
      have r1 := @inh_row _ _ _ _ _ (CG.out.row?_all 18 (by simp))
      obtain ⟨A1, c1, hB1, hR1⟩ := CB.out
      have HR1 := Lib.hid hR1
      have q0 := @inh_cell _ _ _ (hB1.cell (i := 0) rfl)
      have q1 := @inh_cell _ _ _ (hB1.cell (i := 1) rfl)
      have q2 := @inh_cell _ _ _ (hB1.cell (i := 2) rfl)
      have HLW : Hid (Below wr.heap.size wr wr.drew) := below_by
      clear hB1 hR1
      rcases hor with k1 | ⟨hkl, k2⟩
      · go_wp2_with fail
        refine wp_region_ghost' 8 (fun k' => match k' with | 7 => some (gBig z) | _ => none) (fun _ => []) (by kernel_rfl) (by kernel_rfl) ?_; refine ex_listH ?_; apply Exists.intro; refine ex_listH ?_; apply Exists.intro; refine ex_listH ?_; apply Exists.intro; refine ex_listH ?_; apply Exists.intro; refine ex_listH ?_; apply Exists.intro; refine ex_listH ?_; apply Exists.intro; refine ex_listH ?_; apply Exists.intro; refine ex_listH ⟨undef, ?_⟩; refine ⟨[], fun gg NN hN => ?_⟩; simp only [List.append_eq, List.cons_append, List.nil_append, List.take_succ_cons, List.take_zero, List.drop_succ_cons, List.drop_zero]; (repeat (first | (refine lexH_quiet rfl ?_; go_big_quiet_step (first | exact rfl | ((go_at_call 44; exact calls_inh (shift_I _ _ _ HK.out)))); refine wpQuiet_nil ⟨?hd, ?_⟩; (case hd => (simp only [dstVh, Array.getD_eq_getD_getElem?, List.getElem?_toArray, List.getElem?_cons_zero, List.getElem?_cons_succ, Option.getD_some, List.getD_cons_zero, List.getD_cons_succ]; exact rfl))) | (refine lexH_ghost _ (by rfl) (by rfl) ?hex ?_; (case hex => (intro px; (refine ghost_call (fn := 45) (by go_simp; rfl) ?_; exact shift_x _ _ _ _ _ HZ (BigIs.mk (HR1.out.below (inh_low HLW.out px)))))); simp only [Act.put, List.setIfInBounds_toArray, List.set_cons_succ, List.set_cons_zero])))
        refine lexH_nil ?_
        intro w4 hb4' hh
        have hb4 : Below wr.heap.size wr w4 := hb4'
        rw [HZ.out]
        obtain ⟨A2, c2, e7, hs2⟩ := (show BigIs w4 (gg 7) z from hh 7 _ (by decide) rfl).opened
        rw [e7]
        have HS2 := Lib.hid hs2
        have D1 := Lib.hid (C1.out.keep hb4)
        have D2 := Lib.hid (C2.out.keep hb4)
        have HB4 := Lib.hid (HB.out.trans (hb4.mono HB.out.size))
        have hp := D1.out.put? 0 z.cells (by simp) (by simp)
        have u0 := D2.out.cell (i := 0) rfl
        have u1 := D2.out.cell (i := 1) rfl
        have u2 := D2.out.cell (i := 2) rfl
        have uf := D2.out.frozen
        clear hb4' hh hb4 r1 q0 q1 q2 cK e7 hs2
        go_wp2_with fail
        obtain ⟨w5, hw5⟩ : ∃ w5, w5 = w4.putRow (w.heap.size + 1) 0 z.cells := ⟨_, rfl⟩
        rw [← hw5]
        have E1 : Hid (Blk w5 (w.heap.size + 1) z.cells 47) := by
          have := D1.out.putRow_same 0 z.cells
          rw [splice_all _ _ (by simp)] at this
          rw [hw5]; exact this
        have E2 : Hid (Blk w5 (w.heap.size + 1 + 1) #[.bool false, .bool false, .slice none 0 0] 52) := by rw [hw5]; exact D2.out.putRow_other (by omega) _ _
        have HS5 : Hid (Rd w5 (.slice A2 (dg z.sz).length c2) (dg z.sz)) := by rw [hw5]; exact HS2.out.putRow D1.out (cellsI_nou32 _ _ _) _ _
        have HB5 : Hid (Below w.heap.size w w5) := by rw [hw5]; exact Below_putRow HB4.out (by omega) _ _
        clear hw5
        have G1 := ((E1.out.setCell_other (a := ⟨w.heap.size + 1 + 1, 0, none⟩) (by simp) (.bool z.ng)).setCell_other (a := ⟨w.heap.size + 1 + 1, 1, none⟩) (by simp) (.bool z.ov)).setCell_other (a := ⟨w.heap.size + 1 + 1, 2, none⟩) (by simp) (.slice A2 (dg z.sz).length c2)
        have G2 := ((E2.out.setCell_same 0 (.bool z.ng)).setCell_same 1 (.bool z.ov)).setCell_same 2 (.slice A2 (dg z.sz).length c2)
        exact bodyPost_rr 18 3 z.cells #[.bool z.ng, .bool z.ov, .slice A2 (dg z.sz).length c2] rfl rfl rfl rfl Tryz.underlying47 rfl info_Int (G1.row?_all 18 (by simp)) Tryz.underlying52 rfl (by kernel_rfl) (G2.row?_all 3 (by simp)) ⟨⟨_, rfl, BigIs.mk (HS5.out.set3 (E2.out.cell (i := 0) rfl) (E2.out.cell (i := 1) rfl) (E2.out.cell (i := 2) rfl) _ _ _)⟩, ((HB5.out.setCell (by simp; omega) _).setCell (by simp; omega) _).setCell (by simp; omega) _⟩
      · obtain ⟨b, o, rfl, hbb, cT, -⟩ := HT.out k hkl
        have cT' := (HB.out.cell (p := ⟨b, o + k, none⟩) hbb).trans cT
        have k1 : (k : Int) < (len : Int) := by omega
        have k3 : (0 : Int) ≤ (k : Int) := by omega
        clear cT
        go_wp2_with fail
        refine wp_region_ghost' 8 (fun k' => match k' with | 7 => some (gBig z) | _ => none) (fun _ => []) (by kernel_rfl) (by kernel_rfl) ?_; refine ex_listH ?_; apply Exists.intro; refine ex_listH ?_; apply Exists.intro; refine ex_listH ?_; apply Exists.intro; refine ex_listH ?_; apply Exists.intro; refine ex_listH ?_; apply Exists.intro; refine ex_listH ?_; apply Exists.intro; refine ex_listH ?_; apply Exists.intro; refine ex_listH ⟨undef, ?_⟩; refine ⟨[], fun gg NN hN => ?_⟩; simp only [List.append_eq, List.cons_append, List.nil_append, List.take_succ_cons, List.take_zero, List.drop_succ_cons, List.drop_zero]; (repeat (first | (refine lexH_quiet rfl ?_; go_big_quiet_step (first | exact rfl | ((go_at_call 44; exact calls_inh (shift_I _ _ _ HK.out)))); refine wpQuiet_nil ⟨?hd, ?_⟩; (case hd => (simp only [dstVh, Array.getD_eq_getD_getElem?, List.getElem?_toArray, List.getElem?_cons_zero, List.getElem?_cons_succ, Option.getD_some, List.getD_cons_zero, List.getD_cons_succ]; exact rfl))) | (refine lexH_ghost _ (by rfl) (by rfl) ?hex ?_; (case hex => (intro px; (refine ghost_call (fn := 45) (by go_simp; rfl) ?_; exact shift_x _ _ _ _ _ HZ (BigIs.mk (HR1.out.below (inh_low HLW.out px)))))); simp only [Act.put, List.setIfInBounds_toArray, List.set_cons_succ, List.set_cons_zero])))
        refine lexH_nil ?_
        intro w4 hb4' hh
        have hb4 : Below wr.heap.size wr w4 := hb4'
        rw [HZ.out]
        obtain ⟨A2, c2, e7, hs2⟩ := (show BigIs w4 (gg 7) z from hh 7 _ (by decide) rfl).opened
        rw [e7]
        have HS2 := Lib.hid hs2
        have D1 := Lib.hid (C1.out.keep hb4)
        have D2 := Lib.hid (C2.out.keep hb4)
        have HB4 := Lib.hid (HB.out.trans (hb4.mono HB.out.size))
        have hp := D1.out.put? 0 z.cells (by simp) (by simp)
        have u0 := D2.out.cell (i := 0) rfl
        have u1 := D2.out.cell (i := 1) rfl
        have u2 := D2.out.cell (i := 2) rfl
        have uf := D2.out.frozen
        clear hb4' hh hb4 r1 q0 q1 q2 cK e7 hs2
        go_wp2_with fail
        obtain ⟨w5, hw5⟩ : ∃ w5, w5 = w4.putRow (w.heap.size + 1) 0 z.cells := ⟨_, rfl⟩
        rw [← hw5]
        have E1 : Hid (Blk w5 (w.heap.size + 1) z.cells 47) := by
          have := D1.out.putRow_same 0 z.cells
          rw [splice_all _ _ (by simp)] at this
          rw [hw5]; exact this
        have E2 : Hid (Blk w5 (w.heap.size + 1 + 1) #[.bool false, .bool false, .slice none 0 0] 52) := by rw [hw5]; exact D2.out.putRow_other (by omega) _ _
        have HS5 : Hid (Rd w5 (.slice A2 (dg z.sz).length c2) (dg z.sz)) := by rw [hw5]; exact HS2.out.putRow D1.out (cellsI_nou32 _ _ _) _ _
        have HB5 : Hid (Below w.heap.size w w5) := by rw [hw5]; exact Below_putRow HB4.out (by omega) _ _
        clear hw5
        have G1 := ((E1.out.setCell_other (a := ⟨w.heap.size + 1 + 1, 0, none⟩) (by simp) (.bool z.ng)).setCell_other (a := ⟨w.heap.size + 1 + 1, 1, none⟩) (by simp) (.bool z.ov)).setCell_other (a := ⟨w.heap.size + 1 + 1, 2, none⟩) (by simp) (.slice A2 (dg z.sz).length c2)
        have G2 := ((E2.out.setCell_same 0 (.bool z.ng)).setCell_same 1 (.bool z.ov)).setCell_same 2 (.slice A2 (dg z.sz).length c2)
        exact bodyPost_rr 18 3 z.cells #[.bool z.ng, .bool z.ov, .slice A2 (dg z.sz).length c2] rfl rfl rfl rfl Tryz.underlying47 rfl info_Int (G1.row?_all 18 (by simp)) Tryz.underlying52 rfl (by kernel_rfl) (G2.row?_all 3 (by simp)) ⟨⟨_, rfl, BigIs.mk (HS5.out.set3 (E2.out.cell (i := 0) rfl) (E2.out.cell (i := 1) rfl) (E2.out.cell (i := 2) rfl) _ _ _)⟩, ((HB5.out.setCell (by simp; omega) _).setCell (by simp; omega) _).setCell (by simp; omega) _⟩
    · have hkl : k < len := by omega
      obtain ⟨b, o, rfl, hbb, cT, rT⟩ := HT.out k hkl
      have cT' := (HB.out.cell (p := ⟨b, o + k, none⟩) hbb).trans cT
      have RT := Lib.hid rT
      have k1 : (k : Int) < (len : Int) := by omega
      have k2 : ¬ (17 : Int) ≤ (k : Int) := by omega
      have k3 : (0 : Int) ≤ (k : Int) := by omega
      have r1 := @inh_row _ _ _ _ _ (CG.out.row?_all 18 (by simp))
      have hgl := CG.out.lt
      obtain ⟨x, hx⟩ : ∃ x, T k = x := ⟨_, rfl⟩
      rw [hx] at cT' RT
      have HX := Lib.hid hx
      clear cT rT hx
      go_wp2_with fail
      refine wp_region_ghost' 6 (fun _ => none) (fun _ => []) (by kernel_rfl) (by kernel_rfl) ?_; refine ex_listH ?_; apply Exists.intro; refine ex_listH ?_; apply Exists.intro; refine ex_listH ?_; apply Exists.intro; refine ex_listH ?_; apply Exists.intro; refine ex_listH ?_; apply Exists.intro; refine ex_listH ?_; apply Exists.intro; refine ⟨[], fun gg NN hN => ?_⟩; simp only [List.append_eq, List.cons_append, List.nil_append, List.take_succ_cons, List.take_zero, List.drop_succ_cons, List.drop_zero]; (repeat (first | (refine lexH_quiet rfl ?_; go_big_quiet_step (first | exact rfl | (first | (go_at_call 39; exact calls_inh (of_c _ (by first | exact RT.out.1 | decide) (by first | exact RT.out.2 | decide) _)) | (go_at_call 42; exact calls_inh (mul_I _ _ _)) | (go_at_call 41; exact calls_inh (add_I _ _ _)))); refine wpQuiet_nil ⟨?hd, ?_⟩; (case hd => (simp only [dstVh, Array.getD_eq_getD_getElem?, List.getElem?_toArray, List.getElem?_cons_zero, List.getElem?_cons_succ, Option.getD_some, List.getD_cons_zero, List.getD_cons_succ]; exact rfl))) | (refine lexH_ghost _ (by rfl) (by rfl) ?hex ?_; (case hex => (intro px; fail)); simp only [Act.put, List.setIfInBounds_toArray, List.set_cons_succ, List.set_cons_zero])))
      refine lexH_nil ?_
      intro w4 hb4' hh
      have hb4 : Below wr.heap.size wr w4 := hb4'
      have HN : Hid (((partsZ T k).mul (WI.of 4611686018427387904)).add (WI.of x) = partsZ T (k + 1)) := by
        show _ = ((partsZ T k).mul (WI.of 4611686018427387904)).add (WI.of (T k))
        rw [HX.out]
      rw [HN.out]
      have D0 := Lib.hid (C0.out.keep hb4)
      have D1 := Lib.hid (C1.out.keep hb4)
      have D2 := Lib.hid (C2.out.keep hb4)
      have DG := Lib.hid (CG.out.keep hb4)
      have DB := Lib.hid (CB.out.keep hb4)
      have HB4 := Lib.hid (HB.out.trans (hb4.mono HB.out.size))
      have hp := DG.out.put? 0 (partsZ T (k + 1)).cells (by simp) (by simp)
      clear hb4' hh hb4 r1
      go_wp2_with fail
      obtain ⟨w5, hw5⟩ : ∃ w5, w5 = w4.putRow g 0 (partsZ T (k + 1)).cells := ⟨_, rfl⟩
      rw [← hw5]
      have E0 : Hid (Blk w5 w.heap.size #[.slice (some ⟨b, o, none⟩) len cap, .int .i64 K] 40) := by rw [hw5]; exact D0.out.putRow_other ne0 _ _
      have E1 : Hid (Blk w5 (w.heap.size + 1) (cellsI false false 0) 47) := by rw [hw5]; exact D1.out.putRow_other ne1 _ _
      have E2 : Hid (Blk w5 (w.heap.size + 1 + 1) #[.bool false, .bool false, .slice none 0 0] 52) := by rw [hw5]; exact D2.out.putRow_other ne2 _ _
      have EG : Hid (Blk w5 g (partsZ T (k + 1)).cells 47) := by
        have := DG.out.putRow_same 0 (partsZ T (k + 1)).cells
        rw [splice_all _ _ (by simp)] at this
        rw [hw5]; exact this
      have EB : Hid (BigAt w5 (g + 1) (partsZ T k)) := by rw [hw5]; exact DB.out.putRow DG.out (WI.cells_nou32 _) (by omega) _
      have HB5 : Hid (Below w.heap.size w w5) := by rw [hw5]; exact Below_putRow HB4.out gw _ _
      clear hw5 D0 D1 D2 DG DB HB4 hp
      obtain ⟨A1, c1, hB1, hR1⟩ := EB.out
      have HR1 := Lib.hid hR1
      have HG1 := Lib.hid hB1
      have q0 := @inh_cell _ _ _ (hB1.cell (i := 0) rfl)
      have q1 := @inh_cell _ _ _ (hB1.cell (i := 1) rfl)
      have q2 := @inh_cell _ _ _ (hB1.cell (i := 2) rfl)
      have HLW : Hid (Below w5.heap.size w5 w5.drew) := below_by
      have HM : Hid ((partsZ T k).mul (WI.of 4611686018427387904) = (partsZ T k).mul (WI.of 4611686018427387904)) := rfl
      clear hB1 hR1
      refine wp_region_ghost' 6 (fun k' => match k' with | 1 => some (gBig (WI.of 4611686018427387904)) | 2 => some (gBig ((partsZ T k).mul (WI.of 4611686018427387904))) | 4 => some (gBig (WI.of x)) | 5 => some (gBig (partsZ T (k + 1))) | _ => none) (fun k' => match k' with | 2 => [1] | 5 => [2, 4] | _ => []) (by kernel_rfl) (by kernel_rfl) ?_; refine ex_listH ?_; apply Exists.intro; refine ex_listH ⟨undef, ?_⟩; refine ex_listH ⟨undef, ?_⟩; refine ex_listH ?_; apply Exists.intro; refine ex_listH ⟨undef, ?_⟩; refine ex_listH ⟨undef, ?_⟩; refine ⟨[], fun gg NN hN => ?_⟩; simp only [List.append_eq, List.cons_append, List.nil_append, List.take_succ_cons, List.take_zero, List.drop_succ_cons, List.drop_zero]; (repeat (first | (refine lexH_quiet rfl ?_; go_big_quiet_step (first | exact rfl | (fail)); refine wpQuiet_nil ⟨?hd, ?_⟩; (case hd => (simp only [dstVh, Array.getD_eq_getD_getElem?, List.getElem?_toArray, List.getElem?_cons_zero, List.getElem?_cons_succ, Option.getD_some, List.getD_cons_zero, List.getD_cons_succ]; exact rfl))) | (refine lexH_ghost _ (by rfl) (by rfl) ?hex ?_; (case hex => (intro px; first | (refine ghost_call (fn := 40) (by go_simp; rfl) ?_; exact of_r _ (by first | exact RT.out.1 | decide) (by first | exact RT.out.2 | decide) _) | (refine ghost_call (fn := 28) (by go_simp; rfl) ?_; exact mul_x _ _ _ _ _ _ HM (BigIs.mk (HR1.out.below (inh_low HLW.out px))) (px.has 1 (hN 2 1 (by simp)) _ rfl)) | (refine ghost_call (fn := 43) (by go_simp; rfl) ?_; exact add_x _ _ _ _ _ _ HN (px.has 2 (hN 5 2 (by simp)) _ rfl) (px.has 4 (hN 5 4 (by simp)) _ rfl)))); simp only [Act.put, List.setIfInBounds_toArray, List.set_cons_succ, List.set_cons_zero])))
      refine lexH_nil ?_
      intro w6 hb6' hh
      have hb6 : Below w5.heap.size w5 w6 := hb6'
      obtain ⟨A2, c2, e5, hs2⟩ := (show BigIs w6 (gg 5) (partsZ T (k + 1)) from hh 5 _ (by decide) rfl).opened
      rw [e5]
      have HS2 := Lib.hid hs2
      have F0 := Lib.hid (E0.out.keep hb6)
      have F1 := Lib.hid (E1.out.keep hb6)
      have F2 := Lib.hid (E2.out.keep hb6)
      have FG := Lib.hid (EG.out.keep hb6)
      have FB := Lib.hid (EB.out.keep hb6)
      have HG6 := Lib.hid (HG1.out.keep hb6)
      have HB6 := Lib.hid (HB5.out.trans (hb6.mono HB5.out.size))
      have u0 := HG6.out.cell (i := 0) rfl
      have u1 := HG6.out.cell (i := 1) rfl
      have u2 := HG6.out.cell (i := 2) rfl
      have uf := HG6.out.frozen
      clear hb6' hh hb6 q0 q1 q2 e5 hs2
      go_wp2_with fail
      refine ⟨⟨k + 1, by omega, by first | rfl | go_num, ?_, ?_, ?_, ?_, ?_, ?_⟩, by simp [intOf]; omega⟩
      · exact ((F0.out.setCell_other (by simp; omega) _).setCell_other (by simp; omega) _).setCell_other (by simp; omega) _
      · exact ((F1.out.setCell_other (by simp; omega) _).setCell_other (by simp; omega) _).setCell_other (by simp; omega) _
      · exact ((F2.out.setCell_other (by simp; omega) _).setCell_other (by simp; omega) _).setCell_other (by simp; omega) _
      · exact ((FG.out.setCell_other (by simp) _).setCell_other (by simp) _).setCell_other (by simp) _
      · exact FB.out.put HS2.out
      · exact ((HB6.out.setCell (by simp; omega) _).setCell (by simp; omega) _).setCell (by simp; omega) _
end Go.Proofs.YtnoidlacjiafdaaGreat
