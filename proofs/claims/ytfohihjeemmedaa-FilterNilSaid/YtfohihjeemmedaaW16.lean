/- The walks of package wide's Div, Cmp, Int64. -/
import Derived.Test.YtfohihjeemmedaaW15
namespace Go.Proofs.Ytfohihjeemmedaa
open Go.RowKit

/-- The end of a walk whose results are a row of cells and a slot. -/
theorem bodyPost_row_t {P : Program} {fn : Func} {R : Ending → World → Prop} {a : Act} {w : World} {p u : Tmp} {ty : TypeId} {g : Nat} (n : Nat) (cs : Array Value) (v : Value) {d : TypeDesc}
    (h : fn.results = #[.cell p ty, .tmp u]) (hde : a.defers = []) (hp : a.tmps.getD p undef = .pointer (some ⟨g, 0, none⟩)) (hv : a.tmps.getD u undef = v)
    (hu : P.underlying ty = some d) (hd : d.isRow = true) (hi : (P.info? ty).map (·.size) = some n) (hg : w.row? g 0 n = some cs) (hR : R (.returned (.tuple #[.agg cs, v])) w) :
    bodyPost P fn R .ret a w := by
  refine bodyPost_ret (v := .tuple #[.agg cs, v]) ?_ hde hR
  rw [results_cell_tmp h, hp, hv]
  simp [asAddr, Result.andThen, run_loadVar_row? w g 0 n ty cs d hu hd hi hg]
theorem row_1 : (rowW 16 0).setIfInBounds 0 (.int .u64 1) = rowW 16 1 := row_one 1 (by decide)

set_option maxRecDepth 100000 in
set_option maxHeartbeats 1000000 in
theorem div_over (x y : WI) (h : x.ov = true ∨ y.ov = true) (w : World) :
    Calls Try.prog 91 #[.agg x.cells, .agg y.cells] w fun e w' => e = .returned (.tuple #[.agg (x.div y).1.cells, .int .i64 (x.div y).2]) ∧ Below w.heap.size w w' := by
  rw [WI.div_over x y h]
  have E := Lib.hid WI.of_0
  cases hx : x.ov with
  | true =>
    clear h
    go_enter Try.func91, Try.ntmps91
    go_wp2_with fail
    exact bodyPost_row_t 18 (cellsI false false 0) (.int .i64 2) rfl rfl rfl rfl Try.underlying68 rfl info_Int (by go_simp) ⟨by rw [E.out], (by repeat (first | exact Below.refl _ _ | exact Below_of_hid (by assumption) | refine Below.drew ?_ | refine below_drewN ?_ _ | refine Below_putRow ?_ (by first | omega | (simp; done) | (simp; omega) | fail) _ _ | refine Below.alloc ?_ (by first | omega | (simp; done) | (simp; omega) | fail) _ | refine Below.setCell ?_ (by first | omega | (simp; done) | (simp; omega) | fail) _ | refine Below.trans ?_ (Below.mono (by assumption) (by first | omega | (simp; done) | (simp; omega) | fail))))⟩
  | false =>
    have hy : y.ov = true := by rcases h with h | h <;> simp_all
    clear h
    go_enter Try.func91, Try.ntmps91
    go_wp2_with fail
    exact bodyPost_row_t 18 (cellsI false false 0) (.int .i64 2) rfl rfl rfl rfl Try.underlying68 rfl info_Int (by go_simp) ⟨by rw [E.out], (by repeat (first | exact Below.refl _ _ | exact Below_of_hid (by assumption) | refine Below.drew ?_ | refine below_drewN ?_ _ | refine Below_putRow ?_ (by first | omega | (simp; done) | (simp; omega) | fail) _ _ | refine Below.alloc ?_ (by first | omega | (simp; done) | (simp; omega) | fail) _ | refine Below.setCell ?_ (by first | omega | (simp; done) | (simp; omega) | fail) _ | refine Below.trans ?_ (Below.mono (by assumption) (by first | omega | (simp; done) | (simp; omega) | fail))))⟩

set_option maxRecDepth 100000 in
set_option maxHeartbeats 1000000 in
theorem div_zero (x y : WI) (hx : x.ov = false) (hy : y.ov = false) (h : y.sz = 0) (w : World) :
    Calls Try.prog 91 #[.agg x.cells, .agg y.cells] w fun e w' => e = .returned (.tuple #[.agg (x.div y).1.cells, .int .i64 (x.div y).2]) ∧ Below w.heap.size w w' := by
  rw [WI.div_zero x y hx hy h]
  have E := Lib.hid WI.of_0
  have hq : eqW y.sz 0 = true := by rw [eqW_zero _ y.sz_lt']; simp [h]
  clear h
  go_enter Try.func91, Try.ntmps91
  go_wp2_with fail
  exact bodyPost_row_t 18 (cellsI false false 0) (.int .i64 1) rfl rfl rfl rfl Try.underlying68 rfl info_Int (by go_simp) ⟨by rw [E.out], (by repeat (first | exact Below.refl _ _ | exact Below_of_hid (by assumption) | refine Below.drew ?_ | refine below_drewN ?_ _ | refine Below_putRow ?_ (by first | omega | (simp; done) | (simp; omega) | fail) _ _ | refine Below.alloc ?_ (by first | omega | (simp; done) | (simp; omega) | fail) _ | refine Below.setCell ?_ (by first | omega | (simp; done) | (simp; omega) | fail) _ | refine Below.trans ?_ (Below.mono (by assumption) (by first | omega | (simp; done) | (simp; omega) | fail))))⟩

set_option maxRecDepth 100000 in
set_option maxHeartbeats 2000000 in
theorem div_some (x y : WI) (hx : x.ov = false) (hy : y.ov = false) (h : y.sz ≠ 0) (w : World) :
    Calls Try.prog 91 #[.agg x.cells, .agg y.cells] w fun e w' => e = .returned (.tuple #[.agg (x.div y).1.cells, .int .i64 (x.div y).2]) ∧ Below w.heap.size w w' := by
  rw [WI.div_some x y hx hy h]
  have hq : eqW y.sz 0 = false := by rw [eqW_zero _ y.sz_lt']; simp [h]
  obtain ⟨Q, hQ⟩ : ∃ Q, Q = x.sz / y.sz := ⟨_, rfl⟩
  obtain ⟨R, hR⟩ : ∃ R, R = x.sz % y.sz := ⟨_, rfl⟩
  have hQl : Q < lim := by rw [hQ]; exact Nat.lt_of_le_of_lt (Nat.div_le_self _ _) x.sz_lt
  have hQ16 : Q < W16 := Nat.lt_of_lt_of_le hQl lim_le
  have hQ17 : Q + 1 < W16 := by have := W16_two; have := lim_pos; omega
  have hRl : R < W16 := by rw [hR]; exact Nat.lt_of_le_of_lt (Nat.mod_le _ _) x.sz_lt'
  have hRq := eqW_zero R hRl
  rw [← hQ, ← hR]
  have HQ := Lib.hid hQ
  have HR := Lib.hid hR
  have HY := Lib.hid h
  have HL : Hid (Q < W16 ∧ Q + 1 < W16) := ⟨hQ16, hQ17⟩
  have r1 := row_1
  clear hQ hR hQl hQ16 hQ17 hRl h
  cases hb : (x.ng != y.ng) with
  | false =>
    have hb' : (!x.ng == y.ng) = false := by rw [← hb]; cases x.ng <;> cases y.ng <;> rfl
    have hb2 : (x.ng == y.ng) = true := by revert hb; cases x.ng <;> cases y.ng <;> simp
    clear hRq
    go_enter Try.func91, Try.ntmps91
    go_wp2_with fail
    refine (divide_c _ _ _ x.sz_lt' y.sz_lt' HY.out).mono ?_; rintro e w1 ⟨rfl, hb1⟩; rw [← HQ.out, ← HR.out]; have z_w1 := hb1.size; (try simp at z_w1); obtain ⟨y_w1_0_0, c_w1_0_0, f_w1_0_0, r_w1_0_0, t_w1_0_0, p_w1_0_0⟩ := bk hb1 (w.heap.size) (by first | omega | (simp; done) | (simp; omega) | fail); obtain ⟨y_w1_0_1, c_w1_0_1, f_w1_0_1, r_w1_0_1, t_w1_0_1, p_w1_0_1⟩ := bk hb1 (w.heap.size + 1) (by first | omega | (simp; done) | (simp; omega) | fail); obtain ⟨y_w1_0_2, c_w1_0_2, f_w1_0_2, r_w1_0_2, t_w1_0_2, p_w1_0_2⟩ := bk hb1 (w.heap.size + 1 + 1) (by first | omega | (simp; done) | (simp; omega) | fail)
    go_wp2_with fail
    refine (made_c _ Q HL.out.1 _).mono ?_; rintro e w2 ⟨rfl, hb2⟩; have z_w2 := hb2.size; (try simp at z_w2); obtain ⟨y_w2_0_0, c_w2_0_0, f_w2_0_0, r_w2_0_0, t_w2_0_0, p_w2_0_0⟩ := bk hb2 (w.heap.size) (by first | omega | (simp; done) | (simp; omega) | fail); obtain ⟨y_w2_0_1, c_w2_0_1, f_w2_0_1, r_w2_0_1, t_w2_0_1, p_w2_0_1⟩ := bk hb2 (w.heap.size + 1) (by first | omega | (simp; done) | (simp; omega) | fail); obtain ⟨y_w2_0_2, c_w2_0_2, f_w2_0_2, r_w2_0_2, t_w2_0_2, p_w2_0_2⟩ := bk hb2 (w.heap.size + 1 + 1) (by first | omega | (simp; done) | (simp; omega) | fail)
    go_wp2_with fail
    exact bodyPost_row_t 18 (WI.of (sgn false Q)).cells (.int .i64 0) rfl rfl rfl rfl Try.underlying68 rfl info_Int (by go_simp) ⟨rfl, (by repeat (first | exact Below.refl _ _ | exact Below_of_hid (by assumption) | refine Below.drew ?_ | refine below_drewN ?_ _ | refine Below_putRow ?_ (by first | omega | (simp; done) | (simp; omega) | fail) _ _ | refine Below.alloc ?_ (by first | omega | (simp; done) | (simp; omega) | fail) _ | refine Below.setCell ?_ (by first | omega | (simp; done) | (simp; omega) | fail) _ | refine Below.trans ?_ (Below.mono (by assumption) (by first | omega | (simp; done) | (simp; omega) | fail))))⟩
  | true =>
    have hb' : (!x.ng == y.ng) = true := by rw [← hb]; cases x.ng <;> cases y.ng <;> rfl
    by_cases hR0 : R = 0
    · have hq2 : eqW R 0 = true := by rw [hRq]; simp [hR0]
      have HR0 := Lib.hid hR0
      clear hRq hR0
      go_enter Try.func91, Try.ntmps91
      go_wp2_with fail
      refine (divide_c _ _ _ x.sz_lt' y.sz_lt' HY.out).mono ?_; rintro e w1 ⟨rfl, hb1⟩; rw [← HQ.out, ← HR.out]; have z_w1 := hb1.size; (try simp at z_w1); obtain ⟨y_w1_0_0, c_w1_0_0, f_w1_0_0, r_w1_0_0, t_w1_0_0, p_w1_0_0⟩ := bk hb1 (w.heap.size) (by first | omega | (simp; done) | (simp; omega) | fail); obtain ⟨y_w1_0_1, c_w1_0_1, f_w1_0_1, r_w1_0_1, t_w1_0_1, p_w1_0_1⟩ := bk hb1 (w.heap.size + 1) (by first | omega | (simp; done) | (simp; omega) | fail); obtain ⟨y_w1_0_2, c_w1_0_2, f_w1_0_2, r_w1_0_2, t_w1_0_2, p_w1_0_2⟩ := bk hb1 (w.heap.size + 1 + 1) (by first | omega | (simp; done) | (simp; omega) | fail)
      go_wp2_with fail
      refine (made_c _ Q HL.out.1 _).mono ?_; rintro e w2 ⟨rfl, hb2⟩; have z_w2 := hb2.size; (try simp at z_w2); obtain ⟨y_w2_0_0, c_w2_0_0, f_w2_0_0, r_w2_0_0, t_w2_0_0, p_w2_0_0⟩ := bk hb2 (w.heap.size) (by first | omega | (simp; done) | (simp; omega) | fail); obtain ⟨y_w2_0_1, c_w2_0_1, f_w2_0_1, r_w2_0_1, t_w2_0_1, p_w2_0_1⟩ := bk hb2 (w.heap.size + 1) (by first | omega | (simp; done) | (simp; omega) | fail); obtain ⟨y_w2_0_2, c_w2_0_2, f_w2_0_2, r_w2_0_2, t_w2_0_2, p_w2_0_2⟩ := bk hb2 (w.heap.size + 1 + 1) (by first | omega | (simp; done) | (simp; omega) | fail)
      go_wp2_with fail
      all_goals exact bodyPost_row_t 18 (WI.of (sgn true Q)).cells (.int .i64 0) rfl rfl rfl rfl Try.underlying68 rfl info_Int (by go_simp) ⟨by first | rfl | (rw [HR0.out]; rfl), (by repeat (first | exact Below.refl _ _ | exact Below_of_hid (by assumption) | refine Below.drew ?_ | refine below_drewN ?_ _ | refine Below_putRow ?_ (by first | omega | (simp; done) | (simp; omega) | fail) _ _ | refine Below.alloc ?_ (by first | omega | (simp; done) | (simp; omega) | fail) _ | refine Below.setCell ?_ (by first | omega | (simp; done) | (simp; omega) | fail) _ | refine Below.trans ?_ (Below.mono (by assumption) (by first | omega | (simp; done) | (simp; omega) | fail))))⟩
    · have hq2 : eqW R 0 = false := by rw [hRq]; simp [hR0]
      have HR0 := Lib.hid hR0
      clear hRq hR0
      go_enter Try.func91, Try.ntmps91
      go_wp2_with fail
      refine (divide_c _ _ _ x.sz_lt' y.sz_lt' HY.out).mono ?_; rintro e w1 ⟨rfl, hb1⟩; rw [← HQ.out, ← HR.out]; have z_w1 := hb1.size; (try simp at z_w1); obtain ⟨y_w1_0_0, c_w1_0_0, f_w1_0_0, r_w1_0_0, t_w1_0_0, p_w1_0_0⟩ := bk hb1 (w.heap.size) (by first | omega | (simp; done) | (simp; omega) | fail); obtain ⟨y_w1_0_1, c_w1_0_1, f_w1_0_1, r_w1_0_1, t_w1_0_1, p_w1_0_1⟩ := bk hb1 (w.heap.size + 1) (by first | omega | (simp; done) | (simp; omega) | fail); obtain ⟨y_w1_0_2, c_w1_0_2, f_w1_0_2, r_w1_0_2, t_w1_0_2, p_w1_0_2⟩ := bk hb1 (w.heap.size + 1 + 1) (by first | omega | (simp; done) | (simp; omega) | fail)
      go_wp2_with fail
      have ne2 : ¬ (w.heap.size + 1 + 1 = w1.heap.size) := by omega
      refine (add_c _ _ _ _ Q 1 _ (.of_blk (((Blk.new _ _ _).alloc _).alloc _)) (.of_blk (Blk.new' _ _ _ (by simp)))).mono ?_; rintro e w2 ⟨rfl, hb2⟩; have z_w2 := hb2.size; (try simp at z_w2); obtain ⟨y_w2_0_0, c_w2_0_0, f_w2_0_0, r_w2_0_0, t_w2_0_0, p_w2_0_0⟩ := bk hb2 (w.heap.size) (by first | omega | (simp; done) | (simp; omega) | fail); obtain ⟨y_w2_0_1, c_w2_0_1, f_w2_0_1, r_w2_0_1, t_w2_0_1, p_w2_0_1⟩ := bk hb2 (w.heap.size + 1) (by first | omega | (simp; done) | (simp; omega) | fail); obtain ⟨y_w2_0_2, c_w2_0_2, f_w2_0_2, r_w2_0_2, t_w2_0_2, p_w2_0_2⟩ := bk hb2 (w.heap.size + 1 + 1) (by first | omega | (simp; done) | (simp; omega) | fail); obtain ⟨y_w2_1_0, c_w2_1_0, f_w2_1_0, r_w2_1_0, t_w2_1_0, p_w2_1_0⟩ := bk hb2 (w1.heap.size) (by first | omega | (simp; done) | (simp; omega) | fail); obtain ⟨y_w2_1_1, c_w2_1_1, f_w2_1_1, r_w2_1_1, t_w2_1_1, p_w2_1_1⟩ := bk hb2 (w1.heap.size + 1) (by first | omega | (simp; done) | (simp; omega) | fail); obtain ⟨y_w2_1_2, c_w2_1_2, f_w2_1_2, r_w2_1_2, t_w2_1_2, p_w2_1_2⟩ := bk hb2 (w1.heap.size + 1 + 1) (by first | omega | (simp; done) | (simp; omega) | fail)
      go_wp2_with fail
      refine (made_c _ (Q + 1) HL.out.2 _).mono ?_; rintro e w3 ⟨rfl, hb3⟩; have z_w3 := hb3.size; (try simp at z_w3); obtain ⟨y_w3_0_0, c_w3_0_0, f_w3_0_0, r_w3_0_0, t_w3_0_0, p_w3_0_0⟩ := bk hb3 (w.heap.size) (by first | omega | (simp; done) | (simp; omega) | fail); obtain ⟨y_w3_0_1, c_w3_0_1, f_w3_0_1, r_w3_0_1, t_w3_0_1, p_w3_0_1⟩ := bk hb3 (w.heap.size + 1) (by first | omega | (simp; done) | (simp; omega) | fail); obtain ⟨y_w3_0_2, c_w3_0_2, f_w3_0_2, r_w3_0_2, t_w3_0_2, p_w3_0_2⟩ := bk hb3 (w.heap.size + 1 + 1) (by first | omega | (simp; done) | (simp; omega) | fail); obtain ⟨y_w3_1_0, c_w3_1_0, f_w3_1_0, r_w3_1_0, t_w3_1_0, p_w3_1_0⟩ := bk hb3 (w1.heap.size) (by first | omega | (simp; done) | (simp; omega) | fail); obtain ⟨y_w3_1_1, c_w3_1_1, f_w3_1_1, r_w3_1_1, t_w3_1_1, p_w3_1_1⟩ := bk hb3 (w1.heap.size + 1) (by first | omega | (simp; done) | (simp; omega) | fail); obtain ⟨y_w3_1_2, c_w3_1_2, f_w3_1_2, r_w3_1_2, t_w3_1_2, p_w3_1_2⟩ := bk hb3 (w1.heap.size + 1 + 1) (by first | omega | (simp; done) | (simp; omega) | fail)
      go_wp2_with fail
      all_goals exact bodyPost_row_t 18 (WI.of (sgn true (Q + 1))).cells (.int .i64 0) rfl rfl rfl rfl Try.underlying68 rfl info_Int (by go_simp) ⟨by simp, (by repeat (first | exact Below.refl _ _ | exact Below_of_hid (by assumption) | refine Below.drew ?_ | refine below_drewN ?_ _ | refine Below_putRow ?_ (by first | omega | (simp; done) | (simp; omega) | fail) _ _ | refine Below.alloc ?_ (by first | omega | (simp; done) | (simp; omega) | fail) _ | refine Below.setCell ?_ (by first | omega | (simp; done) | (simp; omega) | fail) _ | refine Below.trans ?_ (Below.mono (by assumption) (by first | omega | (simp; done) | (simp; omega) | fail))))⟩

/-- Div. -/
theorem div_I (x y : WI) (w : World) :
    Calls Try.prog 91 #[.agg x.cells, .agg y.cells] w fun e w' => e = .returned (.tuple #[.agg (x.div y).1.cells, .int .i64 (x.div y).2]) ∧ Below w.heap.size w w' := by
  cases hx : x.ov with
  | true => exact div_over x y (.inl hx) w
  | false =>
    cases hy : y.ov with
    | true => exact div_over x y (.inr hy) w
    | false =>
      by_cases h : y.sz = 0
      · exact div_zero x y hx hy h w
      · exact div_some x y hx hy h w

/-- Which is less; false: one is over. -/
def WI.cmp (x y : WI) : Int × Bool :=
  match x.v, y.v with
  | some a, some b => (if a < b then -1 else if b < a then 1 else 0, true)
  | _, _ => (0, false)
theorem WI.cmp_over (x y : WI) (h : x.ov = true ∨ y.ov = true) : x.cmp y = (0, false) := by
  unfold WI.cmp; unfold WI.ov at h
  cases hx : x.v <;> cases hy : y.v <;> simp_all
theorem WI.ng_sz (x : WI) (h : x.ng = true) : x.sz ≠ 0 := by
  unfold WI.ng at h; unfold WI.sz
  cases hx : x.v <;> simp_all <;> omega
theorem WI.cmp_some (x y : WI) (hx : x.ov = false) (hy : y.ov = false) : x.cmp y = (if x.ng then (if y.ng then cmpN y.sz x.sz else -1) else (if y.ng then 1 else cmpN x.sz y.sz), true) := by
  have h1 := x.ng_sz
  have h2 := y.ng_sz
  unfold WI.cmp; rw [WI.some_of_ov hx, WI.some_of_ov hy]
  refine congrArg (fun t => (t, true)) ?_
  simp only [sgn, cmpN]
  cases hxn : x.ng with
  | true =>
    have h3 := h1 hxn
    cases hyn : y.ng with
    | true => simp only [if_true]; (repeat' split) <;> first | rfl | omega
    | false => simp only [if_true, Bool.false_eq_true, if_false]; (repeat' split) <;> first | rfl | omega
  | false =>
    cases hyn : y.ng with
    | true => have h4 := h2 hyn; simp only [if_true, Bool.false_eq_true, if_false]; (repeat' split) <;> first | rfl | omega
    | false => simp only [Bool.false_eq_true, if_false]; (repeat' split) <;> first | rfl | omega
set_option maxRecDepth 100000 in
set_option maxHeartbeats 1000000 in
/-- Cmp. -/
theorem cmp_I (x y : WI) (w : World) :
    Calls Try.prog 74 #[.agg x.cells, .agg y.cells] w fun e w' => e = .returned (.tuple #[.int .i64 (x.cmp y).1, .bool (x.cmp y).2]) ∧ Below w.heap.size w w' := by
  cases hx : x.ov with
  | true =>
    rw [WI.cmp_over x y (.inl hx)]
    go_enter Try.func74, Try.ntmps74
    go_wp2_with fail
    go_ret2
    exact ⟨rfl, (by repeat (first | exact Below.refl _ _ | exact Below_of_hid (by assumption) | refine Below.drew ?_ | refine below_drewN ?_ _ | refine Below_putRow ?_ (by first | omega | (simp; done) | (simp; omega) | fail) _ _ | refine Below.alloc ?_ (by first | omega | (simp; done) | (simp; omega) | fail) _ | refine Below.setCell ?_ (by first | omega | (simp; done) | (simp; omega) | fail) _ | refine Below.trans ?_ (Below.mono (by assumption) (by first | omega | (simp; done) | (simp; omega) | fail))))⟩
  | false =>
    cases hy : y.ov with
    | true =>
      rw [WI.cmp_over x y (.inr hy)]
      go_enter Try.func74, Try.ntmps74
      go_wp2_with fail
      go_ret2
      exact ⟨rfl, (by repeat (first | exact Below.refl _ _ | exact Below_of_hid (by assumption) | refine Below.drew ?_ | refine below_drewN ?_ _ | refine Below_putRow ?_ (by first | omega | (simp; done) | (simp; omega) | fail) _ _ | refine Below.alloc ?_ (by first | omega | (simp; done) | (simp; omega) | fail) _ | refine Below.setCell ?_ (by first | omega | (simp; done) | (simp; omega) | fail) _ | refine Below.trans ?_ (Below.mono (by assumption) (by first | omega | (simp; done) | (simp; omega) | fail))))⟩
    | false =>
      rw [WI.cmp_some x y hx hy]
      cases hxn : x.ng with
      | true =>
        cases hyn : y.ng with
        | true =>
          go_enter Try.func74, Try.ntmps74
          go_wp2_with fail
          refine (cmp_c _ _ _ _ y.sz x.sz _ y.sz_lt' x.sz_lt' (.of_wi (Blk.new' _ _ _ (by simp))) (.of_wi ((Blk.new _ _ _).alloc _))).mono ?_; rintro e w1 ⟨rfl, hb1⟩; have z_w1 := hb1.size; (try simp at z_w1); obtain ⟨y_w1_0_0, c_w1_0_0, f_w1_0_0, r_w1_0_0, t_w1_0_0, p_w1_0_0⟩ := bk hb1 (w.heap.size) (by first | omega | (simp; done) | (simp; omega) | fail); obtain ⟨y_w1_0_1, c_w1_0_1, f_w1_0_1, r_w1_0_1, t_w1_0_1, p_w1_0_1⟩ := bk hb1 (w.heap.size + 1) (by first | omega | (simp; done) | (simp; omega) | fail)
          go_wp2_with fail
          go_ret2
          exact ⟨rfl, (by repeat (first | exact Below.refl _ _ | exact Below_of_hid (by assumption) | refine Below.drew ?_ | refine below_drewN ?_ _ | refine Below_putRow ?_ (by first | omega | (simp; done) | (simp; omega) | fail) _ _ | refine Below.alloc ?_ (by first | omega | (simp; done) | (simp; omega) | fail) _ | refine Below.setCell ?_ (by first | omega | (simp; done) | (simp; omega) | fail) _ | refine Below.trans ?_ (Below.mono (by assumption) (by first | omega | (simp; done) | (simp; omega) | fail))))⟩
        | false =>
          go_enter Try.func74, Try.ntmps74
          go_wp2_with fail
          go_ret2
          exact ⟨rfl, (by repeat (first | exact Below.refl _ _ | exact Below_of_hid (by assumption) | refine Below.drew ?_ | refine below_drewN ?_ _ | refine Below_putRow ?_ (by first | omega | (simp; done) | (simp; omega) | fail) _ _ | refine Below.alloc ?_ (by first | omega | (simp; done) | (simp; omega) | fail) _ | refine Below.setCell ?_ (by first | omega | (simp; done) | (simp; omega) | fail) _ | refine Below.trans ?_ (Below.mono (by assumption) (by first | omega | (simp; done) | (simp; omega) | fail))))⟩
      | false =>
        cases hyn : y.ng with
        | true =>
          go_enter Try.func74, Try.ntmps74
          go_wp2_with fail
          go_ret2
          exact ⟨rfl, (by repeat (first | exact Below.refl _ _ | exact Below_of_hid (by assumption) | refine Below.drew ?_ | refine below_drewN ?_ _ | refine Below_putRow ?_ (by first | omega | (simp; done) | (simp; omega) | fail) _ _ | refine Below.alloc ?_ (by first | omega | (simp; done) | (simp; omega) | fail) _ | refine Below.setCell ?_ (by first | omega | (simp; done) | (simp; omega) | fail) _ | refine Below.trans ?_ (Below.mono (by assumption) (by first | omega | (simp; done) | (simp; omega) | fail))))⟩
        | false =>
          go_enter Try.func74, Try.ntmps74
          go_wp2_with fail
          refine (cmp_c _ _ _ _ x.sz y.sz _ x.sz_lt' y.sz_lt' (.of_wi ((Blk.new _ _ _).alloc _)) (.of_wi (Blk.new' _ _ _ (by simp)))).mono ?_; rintro e w1 ⟨rfl, hb1⟩; have z_w1 := hb1.size; (try simp at z_w1); obtain ⟨y_w1_0_0, c_w1_0_0, f_w1_0_0, r_w1_0_0, t_w1_0_0, p_w1_0_0⟩ := bk hb1 (w.heap.size) (by first | omega | (simp; done) | (simp; omega) | fail); obtain ⟨y_w1_0_1, c_w1_0_1, f_w1_0_1, r_w1_0_1, t_w1_0_1, p_w1_0_1⟩ := bk hb1 (w.heap.size + 1) (by first | omega | (simp; done) | (simp; omega) | fail)
          go_wp2_with fail
          go_ret2
          exact ⟨rfl, (by repeat (first | exact Below.refl _ _ | exact Below_of_hid (by assumption) | refine Below.drew ?_ | refine below_drewN ?_ _ | refine Below_putRow ?_ (by first | omega | (simp; done) | (simp; omega) | fail) _ _ | refine Below.alloc ?_ (by first | omega | (simp; done) | (simp; omega) | fail) _ | refine Below.setCell ?_ (by first | omega | (simp; done) | (simp; omega) | fail) _ | refine Below.trans ?_ (Below.mono (by assumption) (by first | omega | (simp; done) | (simp; omega) | fail))))⟩
end Go.Proofs.Ytfohihjeemmedaa
