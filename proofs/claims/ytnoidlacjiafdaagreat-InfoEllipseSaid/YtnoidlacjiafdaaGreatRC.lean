/- The walks of the document's Of, Neg, Add. The walks of the document's Mul, Sub, Shift. The walk of the document's Shift. -/
import Derived.Test.YtnoidlacjiafdaaGreatRB
import Derived.Test.YtnoidlacjiafdaaGreatBW
import Derived.Test.YtnoidlacjiafdaaGreatSH
namespace Go.Proofs.YtnoidlacjiafdaaGreat
set_option linter.unusedSimpArgs false
set_option linter.unusedVariables false
set_option linter.unusedSimpArgs false
open Go.RowKit

def gBig (x : WI) : Ghost := { holds := fun w v => BigIs w v x, stable := fun h hb => h.below hb }
def gRd (xs : List Nat) : Ghost := { holds := fun w v => Rd w v xs, stable := fun h hb => h.below hb }
theorem BigIs.opened {w : World} {v : Value} {x : WI} (h : BigIs w v x) : ∃ A cap, v = .agg #[.bool x.ng, .bool x.ov, .slice A (dg x.sz).length cap] ∧ Rd w (.slice A (dg x.sz).length cap) (dg x.sz) := by
  obtain ⟨s, rfl, hr⟩ := h
  obtain ⟨A, cap, rfl⟩ := hr.form
  exact ⟨A, cap, rfl, hr⟩
theorem BigIs.mk {w : World} {x : WI} {s : Value} (h : Rd w s (dg x.sz)) : BigIs w (.agg #[.bool x.ng, .bool x.ov, s]) x := ⟨s, rfl, h⟩
/-- What is no word may turn. -/
theorem Rd.set {w : World} {s : Value} {xs : List Nat} (h : Rd w s xs) {g k : Nat} {u : Value} (hc : w.cell? ⟨g, k, none⟩ = some u) (hu : ∀ n, u ≠ .int .u32 n) (v : Value) : Rd (w.setCell ⟨g, k, none⟩ v) s xs := by
  obtain ⟨hd, h | ⟨b, o, cap, hs, h1, h2, h3, h4⟩⟩ := h
  · exact ⟨hd, .inl h⟩
  · refine ⟨hd, .inr ⟨b, o, cap, hs, h1, h2, by simpa using h3, fun i hi => ?_⟩⟩
    rw [World.cell?_setCell_other]
    · exact h4 i hi
    · intro e
      have := h4 i hi
      rw [← e, hc] at this
      exact hu _ (Option.some.inj this)
theorem Rd.set3 {w : World} {s : Value} {xs : List Nat} (h : Rd w s xs) {g : Nat} {x y : Bool} {A : Option Addr} {n m : Nat} (c0 : w.cell? ⟨g, 0, none⟩ = some (.bool x)) (c1 : w.cell? ⟨g, 1, none⟩ = some (.bool y)) (c2 : w.cell? ⟨g, 2, none⟩ = some (.slice A n m)) (v0 v1 v2 : Value) :
    Rd (((w.setCell ⟨g, 0, none⟩ v0).setCell ⟨g, 1, none⟩ v1).setCell ⟨g, 2, none⟩ v2) s xs :=
by
  have d1 : (w.setCell ⟨g, 0, none⟩ v0).cell? ⟨g, 1, none⟩ = some (.bool y) := (World.cell?_setCell_other _ _ _ _ (by simp)).trans c1
  have d2 : ((w.setCell ⟨g, 0, none⟩ v0).setCell ⟨g, 1, none⟩ v1).cell? ⟨g, 2, none⟩ = some (.slice A n m) := (World.cell?_setCell_other _ _ _ _ (by simp)).trans ((World.cell?_setCell_other _ _ _ _ (by simp)).trans c2)
  exact ((h.set c0 (fun n e => by cases e) v0).set d1 (fun n e => by cases e) v1).set d2 (fun n e => by cases e) v2
/-- Laid into a result's cells. -/
theorem Rd.res {w : World} {s : Value} {xs : List Nat} (h : Rd w s xs) {g : Nat} (c0 : w.cell? ⟨g, 0, none⟩ = some (.bool false)) (c1 : w.cell? ⟨g, 1, none⟩ = some (.bool false)) (c2 : w.cell? ⟨g, 2, none⟩ = some (.slice none 0 0)) (v0 v1 v2 : Value) :
    Rd (((w.setCell ⟨g, 0, none⟩ v0).setCell ⟨g, 1, none⟩ v1).setCell ⟨g, 2, none⟩ v2) s xs := h.set3 c0 c1 c2 v0 v1 v2
theorem BigIs.overed (w : World) : BigIs w (.agg #[.bool false, .bool true, .slice none 0 0]) WI.over := by
  refine ⟨.slice none 0 0, rfl, ?_⟩
  show Rd _ _ (dg 0)
  rw [dg_zero]; exact Rd.nil _
theorem inh_low {w w0 : World} (h : Below w.heap.size w w0) {fr : Nat → Option Ghost} {g : Nat → Value} {N : List Nat} (p : Inh w0 fr g N) : Below w.heap.size w p.w :=
  ⟨p.low.os.trans h.os, p.low.tape.trans h.tape, p.low.output.trans h.output, Nat.le_trans h.size p.low.size, fun k hk => by rw [p.low.block k (Nat.lt_of_lt_of_le hk h.size)]; exact h.block k hk⟩
theorem made_x (neg : Bool) (s : Value) (xs : List Nat) (w : World) (x : WI) (hx : Hid (WI.of (sgn neg (nv xs)) = x)) (h : Rd w s xs) :
    Calls Tryz.prog 81 #[.bool neg, s] w fun e w' => (∃ v, e = .returned v ∧ BigIs w' v x) ∧ Below w.heap.size w w' := by
  rw [← hx.out]; exact made_r neg s xs w h
theorem ghost_call {P : Program} {f : Ghost} {w : World} {r : Result Next} {fn : FuncId} {args : Array Value} (hr : r = .ok (.enter fn args) w)
    (h : Calls P fn args w fun e w'' => (∃ v, e = .returned v ∧ f.holds w'' v) ∧ Below w.heap.size w w'') (hf : ∀ v, f.own v = none := by intro _; rfl) : ghostUpon P f w r := by
  subst hr
  exact ⟨rfl, h.mono fun e w' ⟨⟨v, he, hv⟩, hb⟩ => ⟨v, he, hv, hb, fun b hb' => by rw [hf v] at hb'; cases hb'⟩⟩
theorem sgn_of' (x : Int) : sgn (decide (x < 0)) x.natAbs = x := by unfold sgn; by_cases h : x < 0 <;> simp [h] <;> omega
theorem nv_two (a b : Nat) : nv [a, b] = a + 4294967296 * b := by show a + 4294967296 * (b + 4294967296 * 0) = _; omega
theorem Rd.two {w : World} {g : Nat} {a b : Nat} (ha : a < 4294967296) (hb : b < 4294967296) (hg : g < w.heap.size) (c0 : w.cell? ⟨g, 0, none⟩ = some (.int .u32 (a : Int))) (c1 : w.cell? ⟨g, 1, none⟩ = some (.int .u32 (b : Int))) : Rd w (.slice (some ⟨g, 0, none⟩) 2 2) [a, b] := by
  refine ⟨fun d hd => ?_, .inr ⟨g, 0, 2, rfl, by simp, by simp, hg, fun i hi => ?_⟩⟩
  · simp at hd; rcases hd with rfl | rfl <;> assumption
  · rcases i with _ | _ | i
    · exact c0
    · exact c1
    · exact absurd hi (by simp)
set_option maxRecDepth 100000 in
set_option maxHeartbeats 1000000 in
/-- Of. -/
theorem of_r (n : Int) (h1 : -9223372036854775808 ≤ n) (h2 : n ≤ 9223372036854775807) (w : World) :
    Calls Tryz.prog 40 #[.int .i64 n] w fun e w' => (∃ v, e = .returned v ∧ BigIs w' v (WI.of n)) ∧ Below w.heap.size w w' := by
  obtain ⟨N, hN⟩ : ∃ N, N = n.natAbs := ⟨_, rfl⟩
  obtain ⟨a, ha⟩ : ∃ a, a = N % 4294967296 := ⟨_, rfl⟩
  obtain ⟨b, hb⟩ : ∃ b, b = N / 4294967296 := ⟨_, rfl⟩
  have hal : a < 4294967296 := by omega
  have hbl : b < 4294967296 := by omega
  have HV : Hid (WI.of (sgn (decide (n < 0)) (nv [a, b])) = WI.of n) := by
    show _ = _
    rw [nv_two, show a + 4294967296 * b = n.natAbs by omega, sgn_of']
  by_cases hneg : n < 0
  · have e1 : IntKind.u64.wrap n = 18446744073709551616 - (N : Int) := by rw [IntKind.wrap_u64]; omega
    have e2 : IntKind.u64.wrap (-(18446744073709551616 - (N : Int))) = (N : Int) := by rw [IntKind.wrap_u64]; omega
    have e3 : IntKind.u32.wrap (N : Int) = (a : Int) := by rw [IntKind.wrap_u32]; omega
    have e4 : IntKind.u32.wrap ((N : Int) / 4294967296) = (b : Int) := by rw [IntKind.wrap_u32]; omega
    have e5 : decide (n < 0) = true := by simp [hneg]
    rw [e5] at HV
    clear ha hb hN h1 h2
    go_enter Tryz.func40, Tryz.ntmps40
    go_wp2_with fail
    refine (made_r _ _ [a, b] _ (Rd.two hal hbl (by first | omega | (simp; done) | (simp; omega) | fail) (by go_simp) (by go_simp))).mono ?_
    rintro e w1 ⟨⟨v, rfl, hv⟩, hb1⟩; have z_w1 := hb1.size; (try simp at z_w1); obtain ⟨y_w1_0_0, c_w1_0_0, f_w1_0_0, r_w1_0_0, t_w1_0_0, p_w1_0_0⟩ := bq hb1 (w.heap.size)
    rw [HV.out] at hv
    obtain ⟨A, cap, rfl, hs⟩ := hv.opened
    have HS := Lib.hid hs
    clear hs hv
    go_wp2_with fail
    refine bodyPost_row 3 #[.bool (WI.of n).ng, .bool (WI.of n).ov, .slice A (dg (WI.of n).sz).length cap] rfl rfl rfl Tryz.underlying52 rfl (by kernel_rfl) (row_of_cells 2 _ rfl (by intro i hi; rcases i with _ | _ | _ | i; (go_simp); (go_simp); (go_simp); exact absurd hi (by omega))) ⟨⟨_, rfl, BigIs.mk (HS.out.res (by go_simp) (by go_simp) (by go_simp) _ _ _)⟩, below_by⟩
  · have e1 : IntKind.u64.wrap n = (N : Int) := by rw [IntKind.wrap_u64]; omega
    have e3 : IntKind.u32.wrap (N : Int) = (a : Int) := by rw [IntKind.wrap_u32]; omega
    have e4 : IntKind.u32.wrap ((N : Int) / 4294967296) = (b : Int) := by rw [IntKind.wrap_u32]; omega
    have e5 : decide (n < 0) = false := by simp [hneg]
    rw [e5] at HV
    clear ha hb hN h1 h2
    go_enter Tryz.func40, Tryz.ntmps40
    go_wp2_with fail
    refine (made_r _ _ [a, b] _ (Rd.two hal hbl (by first | omega | (simp; done) | (simp; omega) | fail) (by go_simp) (by go_simp))).mono ?_
    rintro e w1 ⟨⟨v, rfl, hv⟩, hb1⟩; have z_w1 := hb1.size; (try simp at z_w1); obtain ⟨y_w1_0_0, c_w1_0_0, f_w1_0_0, r_w1_0_0, t_w1_0_0, p_w1_0_0⟩ := bq hb1 (w.heap.size)
    rw [HV.out] at hv
    obtain ⟨A, cap, rfl, hs⟩ := hv.opened
    have HS := Lib.hid hs
    clear hs hv
    go_wp2_with fail
    refine bodyPost_row 3 #[.bool (WI.of n).ng, .bool (WI.of n).ov, .slice A (dg (WI.of n).sz).length cap] rfl rfl rfl Tryz.underlying52 rfl (by kernel_rfl) (row_of_cells 2 _ rfl (by intro i hi; rcases i with _ | _ | _ | i; (go_simp); (go_simp); (go_simp); exact absurd hi (by omega))) ⟨⟨_, rfl, BigIs.mk (HS.out.res (by go_simp) (by go_simp) (by go_simp) _ _ _)⟩, below_by⟩
set_option maxRecDepth 100000 in
set_option maxHeartbeats 1000000 in
/-- Neg. -/
theorem neg_r (v : Value) (x : WI) (w : World) (hv : BigIs w v x) :
    Calls Tryz.prog 60 #[v] w fun e w' => (∃ v, e = .returned v ∧ BigIs w' v x.neg) ∧ Below w.heap.size w w' := by
  obtain ⟨A, cap, rfl, hs⟩ := hv.opened
  have HS := Lib.hid hs
  clear hs hv
  cases hx : x.ov with
  | true =>
    rw [WI.neg_over x hx]
    go_enter Tryz.func60, Tryz.ntmps60
    go_wp2_with fail
    refine bodyPost_row 3 #[.bool x.ng, .bool true, .slice A (dg x.sz).length cap] rfl rfl rfl Tryz.underlying52 rfl (by kernel_rfl) (row_of_cells 2 _ rfl (by intro i hi; rcases i with _ | _ | _ | i; (go_simp); (go_simp); (go_simp); exact absurd hi (by omega))) ⟨⟨_, rfl, by rw [← hx]; exact BigIs.mk (HS.out.below below_by)⟩, below_by⟩
  | false =>
    rw [WI.neg_some hx]
    obtain ⟨x2, hx2⟩ : ∃ y, y = WI.of (sgn (!x.ng) x.sz) := ⟨_, rfl⟩
    rw [← hx2]
    have HV : Hid (WI.of (sgn (!x.ng) (nv (dg x.sz))) = x2) := by rw [nv_dg, hx2]; exact rfl
    clear hx2
    go_enter Tryz.func60, Tryz.ntmps60
    go_wp2_with fail
    refine (made_r _ _ _ _ (HS.out.below below_by)).mono ?_
    rintro e w1 ⟨⟨v, rfl, hv⟩, hb1⟩; have z_w1 := hb1.size; (try simp at z_w1); obtain ⟨y_w1_0_0, c_w1_0_0, f_w1_0_0, r_w1_0_0, t_w1_0_0, p_w1_0_0⟩ := bq hb1 (w.heap.size); obtain ⟨y_w1_0_1, c_w1_0_1, f_w1_0_1, r_w1_0_1, t_w1_0_1, p_w1_0_1⟩ := bq hb1 (w.heap.size + 1)
    rw [HV.out] at hv
    obtain ⟨A2, cap2, rfl, hs2⟩ := hv.opened
    have HS2 := Lib.hid hs2
    clear hs2 hv
    go_wp2_with fail
    refine bodyPost_row 3 #[.bool x2.ng, .bool x2.ov, .slice A2 (dg x2.sz).length cap2] rfl rfl rfl Tryz.underlying52 rfl (by kernel_rfl) (row_of_cells 2 _ rfl (by intro i hi; rcases i with _ | _ | _ | i; (go_simp); (go_simp); (go_simp); exact absurd hi (by omega))) ⟨⟨_, rfl, BigIs.mk (HS2.out.res (by go_simp) (by go_simp) (by go_simp) _ _ _)⟩, below_by⟩
theorem dg_len_le (N k : Nat) (h : N < 4294967296 ^ k) : (dg N).length ≤ k := by
  induction k generalizing N with
  | zero => rw [show N = 0 by simpa using h, dg_zero]; exact Nat.le_refl _
  | succ k ih =>
    by_cases h0 : N = 0
    · rw [h0, dg_zero]; exact Nat.zero_le _
    · rw [dg_pos N h0, List.length_cons]
      refine Nat.succ_le_succ (ih _ ?_)
      rw [Nat.div_lt_iff_lt_mul (by decide), ← Nat.pow_succ]; exact h
/-- Its digits are few. -/
theorem dg_few (x : WI) : (dg x.sz).length ≤ 32 := by
  have key : ∀ k, k = 32 → x.sz < 4294967296 ^ k := fun k hk => by
    rw [show (4294967296 : Nat) = 2 ^ 32 from rfl, ← Nat.pow_mul]
    exact Nat.lt_of_lt_of_le x.sz_lt (lim_le_pow _ (by omega))
  exact dg_len_le _ _ (key 32 rfl)
theorem cmpD_ge {N M : Nat} (h : M ≤ N) : (0 : Int) ≤ cmpD N M := by
  rcases Nat.lt_or_ge M N with h1 | h1
  · rw [cmpD_gt h1]; decide
  · rw [show N = M by omega, cmpD_eq]; decide
theorem cmpD_not_ge {N M : Nat} (h : ¬ M ≤ N) : ¬ (0 : Int) ≤ cmpD N M := by rw [cmpD_lt (by omega)]; decide
theorem dg_len_mono {N M : Nat} (h : N ≤ M) : (dg N).length ≤ (dg M).length := by
  rcases Nat.lt_or_ge (dg M).length (dg N).length with h1 | h1
  · have := dg_len_lt _ _ h1; omega
  · exact h1
set_option maxRecDepth 100000 in
set_option maxHeartbeats 1000000 in
/-- Add. -/
theorem add_r (a b : Value) (x y : WI) (w : World) (ha : BigIs w a x) (hb : BigIs w b y) :
    Calls Tryz.prog 43 #[a, b] w fun e w' => (∃ v, e = .returned v ∧ BigIs w' v (x.add y)) ∧ Below w.heap.size w w' := by
  obtain ⟨A, cap, rfl, hs⟩ := ha.opened
  obtain ⟨B, cbp, rfl, ht⟩ := hb.opened
  have HS := Lib.hid hs
  have HT := Lib.hid ht
  clear hs ht ha hb
  cases hx : x.ov with
  | true =>
    rw [WI.add_over x y (.inl hx)]
    go_enter Tryz.func43, Tryz.ntmps43
    go_wp2_with fail
    refine bodyPost_row 3 #[.bool false, .bool true, .slice none 0 0] rfl rfl rfl Tryz.underlying52 rfl (by kernel_rfl) (row_of_cells 2 _ rfl (by intro i hi; rcases i with _ | _ | _ | i; (go_simp); (go_simp); (go_simp); exact absurd hi (by omega))) ⟨⟨_, rfl, BigIs.overed _⟩, below_by⟩
  | false =>
    cases hy : y.ov with
    | true =>
      rw [WI.add_over x y (.inr hy)]
      go_enter Tryz.func43, Tryz.ntmps43
      go_wp2_with fail
      refine bodyPost_row 3 #[.bool false, .bool true, .slice none 0 0] rfl rfl rfl Tryz.underlying52 rfl (by kernel_rfl) (row_of_cells 2 _ rfl (by intro i hi; rcases i with _ | _ | _ | i; (go_simp); (go_simp); (go_simp); exact absurd hi (by omega))) ⟨⟨_, rfl, BigIs.overed _⟩, below_by⟩
    | false =>
      rw [WI.add_some hx hy]
      have LX := Lib.hid (dg_few x)
      have LY := Lib.hid (dg_few y)
      by_cases hn : x.ng = y.ng
      · obtain ⟨n, hn1⟩ : ∃ n, x.ng = n := ⟨_, rfl⟩
        rw [hn1] at hn
        rw [← hn, hn1, sgn_add_same]
        obtain ⟨x2, hx2⟩ : ∃ z, z = WI.of (sgn n (x.sz + y.sz)) := ⟨_, rfl⟩
        rw [← hx2]
        have HV : Hid (WI.of (sgn n (nv (dg (nv (dg x.sz) + nv (dg y.sz))))) = x2) := by rw [nv_dg, nv_dg, nv_dg, hx2]; exact rfl
        clear hn hn1 hx2
        go_enter Tryz.func43, Tryz.ntmps43
        go_wp2_with fail
        have HB : Hid (Below w.heap.size w (((w.alloc (Obj.cells #[.bool n, .bool false, .slice A (dg x.sz).length cap] 52)).alloc (Obj.cells #[.bool n, .bool false, .slice B (dg y.sz).length cbp] 52)).alloc (Obj.cells #[.bool false, .bool false, .slice none 0 0] 52)).drew) := below_by
        have c0 := @inh_cell _ _ _ (show (((w.alloc (Obj.cells #[.bool n, .bool false, .slice A (dg x.sz).length cap] 52)).alloc (Obj.cells #[.bool n, .bool false, .slice B (dg y.sz).length cbp] 52)).alloc (Obj.cells #[.bool false, .bool false, .slice none 0 0] 52)).cell? ⟨w.heap.size, 0, none⟩ = some (.bool n) from (by go_simp))
        have c1 := @inh_cell _ _ _ (show (((w.alloc (Obj.cells #[.bool n, .bool false, .slice A (dg x.sz).length cap] 52)).alloc (Obj.cells #[.bool n, .bool false, .slice B (dg y.sz).length cbp] 52)).alloc (Obj.cells #[.bool false, .bool false, .slice none 0 0] 52)).cell? ⟨w.heap.size, 2, none⟩ = some (.slice A (dg x.sz).length cap) from (by go_simp))
        have c2 := @inh_cell _ _ _ (show (((w.alloc (Obj.cells #[.bool n, .bool false, .slice A (dg x.sz).length cap] 52)).alloc (Obj.cells #[.bool n, .bool false, .slice B (dg y.sz).length cbp] 52)).alloc (Obj.cells #[.bool false, .bool false, .slice none 0 0] 52)).cell? ⟨w.heap.size + 1, 0, none⟩ = some (.bool n) from (by go_simp))
        have c3 := @inh_cell _ _ _ (show (((w.alloc (Obj.cells #[.bool n, .bool false, .slice A (dg x.sz).length cap] 52)).alloc (Obj.cells #[.bool n, .bool false, .slice B (dg y.sz).length cbp] 52)).alloc (Obj.cells #[.bool false, .bool false, .slice none 0 0] 52)).cell? ⟨w.heap.size + 1, 2, none⟩ = some (.slice B (dg y.sz).length cbp) from (by go_simp))
        refine wp_region_ghost' 8 (fun k => match k with | 6 => some (gRd (dg (nv (dg x.sz) + nv (dg y.sz)))) | 7 => some (gBig x2) | _ => none) (fun k => match k with | 7 => [6] | _ => []) (by kernel_rfl) (by kernel_rfl) ?_; refine ex_listH ?_; apply Exists.intro; refine ex_listH ?_; apply Exists.intro; refine ex_listH ?_; apply Exists.intro; refine ex_listH ?_; apply Exists.intro; refine ex_listH ?_; apply Exists.intro; refine ex_listH ?_; apply Exists.intro; refine ex_listH ⟨undef, ?_⟩; refine ex_listH ⟨undef, ?_⟩; refine ⟨[], fun gg NN hN => ?_⟩; simp only [List.append_eq, List.cons_append, List.nil_append, List.take_succ_cons, List.take_zero, List.drop_succ_cons, List.drop_zero]; (repeat (first | (refine lexH_quiet rfl ?_; go_big_quiet_step (first | exact rfl | (fail)); refine wpQuiet_nil ⟨?hd, ?_⟩; (case hd => (simp only [dstVh, Array.getD_eq_getD_getElem?, List.getElem?_toArray, List.getElem?_cons_zero, List.getElem?_cons_succ, Option.getD_some, List.getD_cons_zero, List.getD_cons_succ]; exact rfl))) | (refine lexH_ghost _ (by rfl) (by rfl) ?hex ?_; (case hex => (intro px; first | (refine ghost_call (fn := 103) (by go_simp; rfl) ?_; exact plus_r _ _ _ _ _ (HS.out.below (inh_low HB.out px)) (HT.out.below (inh_low HB.out px)) (Nat.le_trans LX.out (by decide)) (Nat.le_trans LY.out (by decide))) | (refine ghost_call (fn := 81) (by go_simp; rfl) ?_; exact made_x _ _ _ _ _ HV (px.has 6 (hN 7 6 (by simp)) _ rfl)))); simp only [Act.put, List.setIfInBounds_toArray, List.set_cons_succ, List.set_cons_zero])))
        refine lexH_nil ?_
        intro w1 hb1' hh
        have hb1 : Below (((w.alloc (Obj.cells #[.bool n, .bool false, .slice A (dg x.sz).length cap] 52)).alloc (Obj.cells #[.bool n, .bool false, .slice B (dg y.sz).length cbp] 52)).alloc (Obj.cells #[.bool false, .bool false, .slice none 0 0] 52)).heap.size (((w.alloc (Obj.cells #[.bool n, .bool false, .slice A (dg x.sz).length cap] 52)).alloc (Obj.cells #[.bool n, .bool false, .slice B (dg y.sz).length cbp] 52)).alloc (Obj.cells #[.bool false, .bool false, .slice none 0 0] 52)) w1 := hb1'
        obtain ⟨A2, cap2, e7, hs2⟩ := (show BigIs w1 (gg 7) x2 from hh 7 _ (by decide) rfl).opened
        have HS2 := Lib.hid hs2
        rw [e7]
        clear hb1' hh hs2 e7 c0 c1 c2 c3
        have z_w1 := hb1.size; (try simp at z_w1); obtain ⟨y_w1_0_0, c_w1_0_0, f_w1_0_0, r_w1_0_0, t_w1_0_0, p_w1_0_0⟩ := bq hb1 (w.heap.size); obtain ⟨y_w1_0_1, c_w1_0_1, f_w1_0_1, r_w1_0_1, t_w1_0_1, p_w1_0_1⟩ := bq hb1 (w.heap.size + 1); obtain ⟨y_w1_0_2, c_w1_0_2, f_w1_0_2, r_w1_0_2, t_w1_0_2, p_w1_0_2⟩ := bq hb1 (w.heap.size + 1 + 1)
        go_wp2_with fail
        refine bodyPost_row 3 #[.bool x2.ng, .bool x2.ov, .slice A2 (dg x2.sz).length cap2] rfl rfl rfl Tryz.underlying52 rfl (by kernel_rfl) (row_of_cells 2 _ rfl (by intro i hi; rcases i with _ | _ | _ | i; (go_simp); (go_simp); (go_simp); exact absurd hi (by omega))) ⟨⟨_, rfl, BigIs.mk (HS2.out.res (by go_simp) (by go_simp) (by go_simp) _ _ _)⟩, below_by⟩
      · have hd : decide (x.ng = y.ng) = false := decide_eq_false hn
        have hd2 : (x.ng == y.ng) = false := by simpa using hn
        by_cases hle : y.sz ≤ x.sz
        · rw [sgn_add_ge _ _ _ _ hn hle]
          obtain ⟨x2, hx2⟩ : ∃ z, z = WI.of (sgn x.ng (x.sz - y.sz)) := ⟨_, rfl⟩
          rw [← hx2]
          have HV : Hid (WI.of (sgn x.ng (nv (dg (nv (dg x.sz) - nv (dg y.sz))))) = x2) := by rw [nv_dg, nv_dg, nv_dg, hx2]; exact rfl
          have HLE : Hid (nv (dg y.sz) ≤ nv (dg x.sz)) := by rw [nv_dg, nv_dg]; exact hle
          have HLL : Hid ((dg y.sz).length ≤ (dg x.sz).length) := dg_len_mono (by have := HLE.out; rwa [nv_dg, nv_dg] at this)
          have hc :  (0 : Int) ≤ cmpD x.sz y.sz := cmpD_ge hle
          clear hx2 hle
          go_enter Tryz.func43, Tryz.ntmps43
          go_wp2_with fail
          refine (cmp_r _ _ _ _ _ (HS.out.below below_by) (HT.out.below below_by)).mono ?_
          rintro e w0 ⟨rfl, hb0⟩; have z_w0 := hb0.size; (try simp at z_w0); obtain ⟨y_w0_0_0, c_w0_0_0, f_w0_0_0, r_w0_0_0, t_w0_0_0, p_w0_0_0⟩ := bq hb0 (w.heap.size); obtain ⟨y_w0_0_1, c_w0_0_1, f_w0_0_1, r_w0_0_1, t_w0_0_1, p_w0_0_1⟩ := bq hb0 (w.heap.size + 1); obtain ⟨y_w0_0_2, c_w0_0_2, f_w0_0_2, r_w0_0_2, t_w0_0_2, p_w0_0_2⟩ := bq hb0 (w.heap.size + 1 + 1)
          go_wp2_with fail
          have HB : Hid (Below w.heap.size w w0.drew) := below_by
          have c0 := @inh_cell _ _ _ (show (w0).cell? ⟨w.heap.size, 0, none⟩ = some (.bool x.ng) from (by go_simp))
          have c1 := @inh_cell _ _ _ (show (w0).cell? ⟨w.heap.size, 2, none⟩ = some (.slice A (dg x.sz).length cap) from (by go_simp))
          have c2 := @inh_cell _ _ _ (show (w0).cell? ⟨w.heap.size + 1, 0, none⟩ = some (.bool y.ng) from (by go_simp))
          have c3 := @inh_cell _ _ _ (show (w0).cell? ⟨w.heap.size + 1, 2, none⟩ = some (.slice B (dg y.sz).length cbp) from (by go_simp))
          refine wp_region_ghost' 8 (fun k => match k with | 6 => some (gRd (dg (nv (dg x.sz) - nv (dg y.sz)))) | 7 => some (gBig x2) | _ => none) (fun k => match k with | 7 => [6] | _ => []) (by kernel_rfl) (by kernel_rfl) ?_; refine ex_listH ?_; apply Exists.intro; refine ex_listH ?_; apply Exists.intro; refine ex_listH ?_; apply Exists.intro; refine ex_listH ?_; apply Exists.intro; refine ex_listH ?_; apply Exists.intro; refine ex_listH ?_; apply Exists.intro; refine ex_listH ⟨undef, ?_⟩; refine ex_listH ⟨undef, ?_⟩; refine ⟨[], fun gg NN hN => ?_⟩; simp only [List.append_eq, List.cons_append, List.nil_append, List.take_succ_cons, List.take_zero, List.drop_succ_cons, List.drop_zero]; (repeat (first | (refine lexH_quiet rfl ?_; go_big_quiet_step (first | exact rfl | (fail)); refine wpQuiet_nil ⟨?hd, ?_⟩; (case hd => (simp only [dstVh, Array.getD_eq_getD_getElem?, List.getElem?_toArray, List.getElem?_cons_zero, List.getElem?_cons_succ, Option.getD_some, List.getD_cons_zero, List.getD_cons_succ]; exact rfl))) | (refine lexH_ghost _ (by rfl) (by rfl) ?hex ?_; (case hex => (intro px; first | (refine ghost_call (fn := 105) (by go_simp; rfl) ?_; exact minus_r _ _ _ _ _ (HS.out.below (inh_low HB.out px)) (HT.out.below (inh_low HB.out px)) (Nat.le_trans LX.out (by decide)) HLL.out HLE.out) | (refine ghost_call (fn := 81) (by go_simp; rfl) ?_; exact made_x _ _ _ _ _ HV (px.has 6 (hN 7 6 (by simp)) _ rfl)))); simp only [Act.put, List.setIfInBounds_toArray, List.set_cons_succ, List.set_cons_zero])))
          refine lexH_nil ?_
          intro w1 hb1' hh
          have hb1 : Below w0.heap.size w0 w1 := hb1'
          obtain ⟨A2, cap2, e7, hs2⟩ := (show BigIs w1 (gg 7) x2 from hh 7 _ (by decide) rfl).opened
          have HS2 := Lib.hid hs2
          rw [e7]
          clear hb1' hh hs2 e7 c0 c1 c2 c3
          have z_w1 := hb1.size; (try simp at z_w1); obtain ⟨y_w1_0_0, c_w1_0_0, f_w1_0_0, r_w1_0_0, t_w1_0_0, p_w1_0_0⟩ := bq hb1 (w.heap.size); obtain ⟨y_w1_0_1, c_w1_0_1, f_w1_0_1, r_w1_0_1, t_w1_0_1, p_w1_0_1⟩ := bq hb1 (w.heap.size + 1); obtain ⟨y_w1_0_2, c_w1_0_2, f_w1_0_2, r_w1_0_2, t_w1_0_2, p_w1_0_2⟩ := bq hb1 (w.heap.size + 1 + 1)
          go_wp2_with fail
          refine bodyPost_row 3 #[.bool x2.ng, .bool x2.ov, .slice A2 (dg x2.sz).length cap2] rfl rfl rfl Tryz.underlying52 rfl (by kernel_rfl) (row_of_cells 2 _ rfl (by intro i hi; rcases i with _ | _ | _ | i; (go_simp); (go_simp); (go_simp); exact absurd hi (by omega))) ⟨⟨_, rfl, BigIs.mk (HS2.out.res (by go_simp) (by go_simp) (by go_simp) _ _ _)⟩, below_by⟩
        · rw [sgn_add_lt _ _ _ _ hn (by omega)]
          obtain ⟨x2, hx2⟩ : ∃ z, z = WI.of (sgn y.ng (y.sz - x.sz)) := ⟨_, rfl⟩
          rw [← hx2]
          have HV : Hid (WI.of (sgn y.ng (nv (dg (nv (dg y.sz) - nv (dg x.sz))))) = x2) := by rw [nv_dg, nv_dg, nv_dg, hx2]; exact rfl
          have HLE : Hid (nv (dg x.sz) ≤ nv (dg y.sz)) := by rw [nv_dg, nv_dg]; exact (Nat.le_of_lt (Nat.lt_of_not_le hle))
          have HLL : Hid ((dg x.sz).length ≤ (dg y.sz).length) := dg_len_mono (by have := HLE.out; rwa [nv_dg, nv_dg] at this)
          have hc : ¬ (0 : Int) ≤ cmpD x.sz y.sz := cmpD_not_ge hle
          clear hx2 hle
          go_enter Tryz.func43, Tryz.ntmps43
          go_wp2_with fail
          refine (cmp_r _ _ _ _ _ (HS.out.below below_by) (HT.out.below below_by)).mono ?_
          rintro e w0 ⟨rfl, hb0⟩; have z_w0 := hb0.size; (try simp at z_w0); obtain ⟨y_w0_0_0, c_w0_0_0, f_w0_0_0, r_w0_0_0, t_w0_0_0, p_w0_0_0⟩ := bq hb0 (w.heap.size); obtain ⟨y_w0_0_1, c_w0_0_1, f_w0_0_1, r_w0_0_1, t_w0_0_1, p_w0_0_1⟩ := bq hb0 (w.heap.size + 1); obtain ⟨y_w0_0_2, c_w0_0_2, f_w0_0_2, r_w0_0_2, t_w0_0_2, p_w0_0_2⟩ := bq hb0 (w.heap.size + 1 + 1)
          go_wp2_with fail
          have HB : Hid (Below w.heap.size w w0.drew) := below_by
          have c0 := @inh_cell _ _ _ (show (w0).cell? ⟨w.heap.size, 0, none⟩ = some (.bool x.ng) from (by go_simp))
          have c1 := @inh_cell _ _ _ (show (w0).cell? ⟨w.heap.size, 2, none⟩ = some (.slice A (dg x.sz).length cap) from (by go_simp))
          have c2 := @inh_cell _ _ _ (show (w0).cell? ⟨w.heap.size + 1, 0, none⟩ = some (.bool y.ng) from (by go_simp))
          have c3 := @inh_cell _ _ _ (show (w0).cell? ⟨w.heap.size + 1, 2, none⟩ = some (.slice B (dg y.sz).length cbp) from (by go_simp))
          refine wp_region_ghost' 8 (fun k => match k with | 6 => some (gRd (dg (nv (dg y.sz) - nv (dg x.sz)))) | 7 => some (gBig x2) | _ => none) (fun k => match k with | 7 => [6] | _ => []) (by kernel_rfl) (by kernel_rfl) ?_; refine ex_listH ?_; apply Exists.intro; refine ex_listH ?_; apply Exists.intro; refine ex_listH ?_; apply Exists.intro; refine ex_listH ?_; apply Exists.intro; refine ex_listH ?_; apply Exists.intro; refine ex_listH ?_; apply Exists.intro; refine ex_listH ⟨undef, ?_⟩; refine ex_listH ⟨undef, ?_⟩; refine ⟨[], fun gg NN hN => ?_⟩; simp only [List.append_eq, List.cons_append, List.nil_append, List.take_succ_cons, List.take_zero, List.drop_succ_cons, List.drop_zero]; (repeat (first | (refine lexH_quiet rfl ?_; go_big_quiet_step (first | exact rfl | (fail)); refine wpQuiet_nil ⟨?hd, ?_⟩; (case hd => (simp only [dstVh, Array.getD_eq_getD_getElem?, List.getElem?_toArray, List.getElem?_cons_zero, List.getElem?_cons_succ, Option.getD_some, List.getD_cons_zero, List.getD_cons_succ]; exact rfl))) | (refine lexH_ghost _ (by rfl) (by rfl) ?hex ?_; (case hex => (intro px; first | (refine ghost_call (fn := 105) (by go_simp; rfl) ?_; exact minus_r _ _ _ _ _ (HT.out.below (inh_low HB.out px)) (HS.out.below (inh_low HB.out px)) (Nat.le_trans LY.out (by decide)) HLL.out HLE.out) | (refine ghost_call (fn := 81) (by go_simp; rfl) ?_; exact made_x _ _ _ _ _ HV (px.has 6 (hN 7 6 (by simp)) _ rfl)))); simp only [Act.put, List.setIfInBounds_toArray, List.set_cons_succ, List.set_cons_zero])))
          refine lexH_nil ?_
          intro w1 hb1' hh
          have hb1 : Below w0.heap.size w0 w1 := hb1'
          obtain ⟨A2, cap2, e7, hs2⟩ := (show BigIs w1 (gg 7) x2 from hh 7 _ (by decide) rfl).opened
          have HS2 := Lib.hid hs2
          rw [e7]
          clear hb1' hh hs2 e7 c0 c1 c2 c3
          have z_w1 := hb1.size; (try simp at z_w1); obtain ⟨y_w1_0_0, c_w1_0_0, f_w1_0_0, r_w1_0_0, t_w1_0_0, p_w1_0_0⟩ := bq hb1 (w.heap.size); obtain ⟨y_w1_0_1, c_w1_0_1, f_w1_0_1, r_w1_0_1, t_w1_0_1, p_w1_0_1⟩ := bq hb1 (w.heap.size + 1); obtain ⟨y_w1_0_2, c_w1_0_2, f_w1_0_2, r_w1_0_2, t_w1_0_2, p_w1_0_2⟩ := bq hb1 (w.heap.size + 1 + 1)
          go_wp2_with fail
          refine bodyPost_row 3 #[.bool x2.ng, .bool x2.ov, .slice A2 (dg x2.sz).length cap2] rfl rfl rfl Tryz.underlying52 rfl (by kernel_rfl) (row_of_cells 2 _ rfl (by intro i hi; rcases i with _ | _ | _ | i; (go_simp); (go_simp); (go_simp); exact absurd hi (by omega))) ⟨⟨_, rfl, BigIs.mk (HS2.out.res (by go_simp) (by go_simp) (by go_simp) _ _ _)⟩, below_by⟩
end Go.Proofs.YtnoidlacjiafdaaGreat
namespace Go.Proofs.YtnoidlacjiafdaaGreat
set_option linter.unusedSimpArgs false
open Go.RowKit

set_option maxRecDepth 100000 in
set_option maxHeartbeats 1000000 in
/-- Mul. -/
theorem mul_r (a b : Value) (x y : WI) (w : World) (ha : BigIs w a x) (hb : BigIs w b y) :
    Calls Tryz.prog 28 #[a, b] w fun e w' => (∃ v, e = .returned v ∧ BigIs w' v (x.mul y)) ∧ Below w.heap.size w w' := by
  obtain ⟨A, cap, rfl, hs⟩ := ha.opened
  obtain ⟨B, cbp, rfl, ht⟩ := hb.opened
  have HS := Lib.hid hs
  have HT := Lib.hid ht
  clear hs ht ha hb
  cases hx : x.ov with
  | true =>
    rw [WI.mul_over x y (.inl hx)]
    go_enter Tryz.func28, Tryz.ntmps28
    go_wp2_with fail
    refine bodyPost_row 3 #[.bool false, .bool true, .slice none 0 0] rfl rfl rfl Tryz.underlying52 rfl (by kernel_rfl) (row_of_cells 2 _ rfl (by intro i hi; rcases i with _ | _ | _ | i; (go_simp); (go_simp); (go_simp); exact absurd hi (by omega))) ⟨⟨_, rfl, BigIs.overed _⟩, below_by⟩
  | false =>
    cases hy : y.ov with
    | true =>
      rw [WI.mul_over x y (.inr hy)]
      go_enter Tryz.func28, Tryz.ntmps28
      go_wp2_with fail
      refine bodyPost_row 3 #[.bool false, .bool true, .slice none 0 0] rfl rfl rfl Tryz.underlying52 rfl (by kernel_rfl) (row_of_cells 2 _ rfl (by intro i hi; rcases i with _ | _ | _ | i; (go_simp); (go_simp); (go_simp); exact absurd hi (by omega))) ⟨⟨_, rfl, BigIs.overed _⟩, below_by⟩
    | false =>
      rw [WI.mul_some hx hy]
      have LX := Lib.hid (dg_few x)
      have LY := Lib.hid (dg_few y)
      obtain ⟨n, hn⟩ : ∃ n, x.ng = n := ⟨_, rfl⟩
      obtain ⟨m, hm⟩ : ∃ m, y.ng = m := ⟨_, rfl⟩
      rw [hn, hm]
      obtain ⟨x2, hx2⟩ : ∃ z, z = WI.of (sgn (n != m) (x.sz * y.sz)) := ⟨_, rfl⟩
      rw [← hx2]
      have HV : Hid (∀ b : Bool, b = (n != m) → Hid (WI.of (sgn b (nv (dg (nv (dg x.sz) * nv (dg y.sz))))) = x2)) := fun b hb => by rw [nv_dg, nv_dg, nv_dg, hx2, hb]; exact rfl
      clear hn hm hx2
      go_enter Tryz.func28, Tryz.ntmps28
      go_wp2_with fail
      have HB : Hid (Below w.heap.size w (((w.alloc (Obj.cells #[.bool n, .bool false, .slice A (dg x.sz).length cap] 52)).alloc (Obj.cells #[.bool m, .bool false, .slice B (dg y.sz).length cbp] 52)).alloc (Obj.cells #[.bool false, .bool false, .slice none 0 0] 52)).drew) := below_by
      have c0 := @inh_cell _ _ _ (show (((w.alloc (Obj.cells #[.bool n, .bool false, .slice A (dg x.sz).length cap] 52)).alloc (Obj.cells #[.bool m, .bool false, .slice B (dg y.sz).length cbp] 52)).alloc (Obj.cells #[.bool false, .bool false, .slice none 0 0] 52)).cell? ⟨w.heap.size, 0, none⟩ = some (.bool n) from (by go_simp))
      have c1 := @inh_cell _ _ _ (show (((w.alloc (Obj.cells #[.bool n, .bool false, .slice A (dg x.sz).length cap] 52)).alloc (Obj.cells #[.bool m, .bool false, .slice B (dg y.sz).length cbp] 52)).alloc (Obj.cells #[.bool false, .bool false, .slice none 0 0] 52)).cell? ⟨w.heap.size, 2, none⟩ = some (.slice A (dg x.sz).length cap) from (by go_simp))
      have c2 := @inh_cell _ _ _ (show (((w.alloc (Obj.cells #[.bool n, .bool false, .slice A (dg x.sz).length cap] 52)).alloc (Obj.cells #[.bool m, .bool false, .slice B (dg y.sz).length cbp] 52)).alloc (Obj.cells #[.bool false, .bool false, .slice none 0 0] 52)).cell? ⟨w.heap.size + 1, 0, none⟩ = some (.bool m) from (by go_simp))
      have c3 := @inh_cell _ _ _ (show (((w.alloc (Obj.cells #[.bool n, .bool false, .slice A (dg x.sz).length cap] 52)).alloc (Obj.cells #[.bool m, .bool false, .slice B (dg y.sz).length cbp] 52)).alloc (Obj.cells #[.bool false, .bool false, .slice none 0 0] 52)).cell? ⟨w.heap.size + 1, 2, none⟩ = some (.slice B (dg y.sz).length cbp) from (by go_simp))
      refine wp_region_ghost' 11 (fun k => match k with | 9 => some (gRd (dg (nv (dg x.sz) * nv (dg y.sz)))) | 10 => some (gBig x2) | _ => none) (fun k => match k with | 10 => [9] | _ => []) (by kernel_rfl) (by kernel_rfl) ?_; refine ex_listH ?_; apply Exists.intro; refine ex_listH ?_; apply Exists.intro; refine ex_listH ?_; apply Exists.intro; refine ex_listH ?_; apply Exists.intro; refine ex_listH ?_; apply Exists.intro; refine ex_listH ?_; apply Exists.intro; refine ex_listH ?_; apply Exists.intro; refine ex_listH ?_; apply Exists.intro; refine ex_listH ?_; apply Exists.intro; refine ex_listH ⟨undef, ?_⟩; refine ex_listH ⟨undef, ?_⟩; refine ⟨[], fun gg NN hN => ?_⟩; simp only [List.append_eq, List.cons_append, List.nil_append, List.take_succ_cons, List.take_zero, List.drop_succ_cons, List.drop_zero]; (repeat (first | (refine lexH_quiet rfl ?_; go_big_quiet_step (first | exact rfl | (fail)); refine wpQuiet_nil ⟨?hd, ?_⟩; (case hd => (simp only [dstVh, Array.getD_eq_getD_getElem?, List.getElem?_toArray, List.getElem?_cons_zero, List.getElem?_cons_succ, Option.getD_some, List.getD_cons_zero, List.getD_cons_succ]; exact rfl))) | (refine lexH_ghost _ (by rfl) (by rfl) ?hex ?_; (case hex => (intro px; first | (refine ghost_call (fn := 82) (by go_simp; rfl) ?_; exact times_r _ _ _ _ _ (HS.out.below (inh_low HB.out px)) (HT.out.below (inh_low HB.out px)) (Nat.le_trans LX.out (by decide)) (Nat.le_trans LY.out (by decide))) | (refine ghost_call (fn := 81) (by go_simp; rfl) ?_; exact made_x _ _ _ _ _ (HV.out _ (by first | rfl | simp)) (px.has 9 (hN 10 9 (by simp)) _ rfl)))); simp only [Act.put, List.setIfInBounds_toArray, List.set_cons_succ, List.set_cons_zero])))
      refine lexH_nil ?_
      intro w1 hb1' hh
      have hb1 : Below (((w.alloc (Obj.cells #[.bool n, .bool false, .slice A (dg x.sz).length cap] 52)).alloc (Obj.cells #[.bool m, .bool false, .slice B (dg y.sz).length cbp] 52)).alloc (Obj.cells #[.bool false, .bool false, .slice none 0 0] 52)).heap.size (((w.alloc (Obj.cells #[.bool n, .bool false, .slice A (dg x.sz).length cap] 52)).alloc (Obj.cells #[.bool m, .bool false, .slice B (dg y.sz).length cbp] 52)).alloc (Obj.cells #[.bool false, .bool false, .slice none 0 0] 52)) w1 := hb1'
      obtain ⟨A2, cap2, e7, hs2⟩ := (show BigIs w1 (gg 10) x2 from hh 10 _ (by decide) rfl).opened
      have HS2 := Lib.hid hs2
      rw [e7]
      clear hb1' hh hs2 e7 c0 c1 c2 c3
      have z_w1 := hb1.size; (try simp at z_w1); obtain ⟨y_w1_0_0, c_w1_0_0, f_w1_0_0, r_w1_0_0, t_w1_0_0, p_w1_0_0⟩ := bq hb1 (w.heap.size); obtain ⟨y_w1_0_1, c_w1_0_1, f_w1_0_1, r_w1_0_1, t_w1_0_1, p_w1_0_1⟩ := bq hb1 (w.heap.size + 1); obtain ⟨y_w1_0_2, c_w1_0_2, f_w1_0_2, r_w1_0_2, t_w1_0_2, p_w1_0_2⟩ := bq hb1 (w.heap.size + 1 + 1)
      go_wp2_with fail
      refine bodyPost_row 3 #[.bool x2.ng, .bool x2.ov, .slice A2 (dg x2.sz).length cap2] rfl rfl rfl Tryz.underlying52 rfl (by kernel_rfl) (row_of_cells 2 _ rfl (by intro i hi; rcases i with _ | _ | _ | i; (go_simp); (go_simp); (go_simp); exact absurd hi (by omega))) ⟨⟨_, rfl, BigIs.mk (HS2.out.res (by go_simp) (by go_simp) (by go_simp) _ _ _)⟩, below_by⟩
theorem row_ltH {w : World} {b o n : Nat} {cs : Array Value} (h : w.row? b o n = some cs) : b < w.heap.size := by
  unfold World.row? at h
  split at h
  · rename_i c t fr hb; exact (Array.getElem?_eq_some_iff.1 hb).1
  · cases h
theorem inh_row {w : World} {b o n : Nat} {cs : Array Value} (h : w.row? b o n = some cs) {fr : Nat → Option Ghost} {g : Nat → Value} {N : List Nat} (p : Inh w.drew fr g N) : p.w.row? b o n = some cs := by
  have hb : Below w.heap.size w p.w := ⟨p.low.os, p.low.tape, p.low.output, p.low.size, p.low.block⟩
  rw [Below.row? hb b o n (row_ltH h)]; exact h
theorem add_x (a b : Value) (x y z : WI) (w : World) (hz : Hid (x.add y = z)) (ha : BigIs w a x) (hb : BigIs w b y) :
    Calls Tryz.prog 43 #[a, b] w fun e w' => (∃ v, e = .returned v ∧ BigIs w' v z) ∧ Below w.heap.size w w' := by
  rw [← hz.out]; exact add_r a b x y w ha hb
set_option maxRecDepth 100000 in
set_option maxHeartbeats 1000000 in
/-- Sub. -/
theorem sub_r (a b : Value) (x y : WI) (w : World) (ha : BigIs w a x) (hb : BigIs w b y) :
    Calls Tryz.prog 27 #[a, b] w fun e w' => (∃ v, e = .returned v ∧ BigIs w' v (x.sub y)) ∧ Below w.heap.size w w' := by
  obtain ⟨A, cap, rfl, hs⟩ := ha.opened
  obtain ⟨B, cbp, rfl, ht⟩ := hb.opened
  have HS := Lib.hid hs
  have HT := Lib.hid ht
  clear hs ht ha hb
  obtain ⟨x2, hx2⟩ : ∃ z, z = x.sub y := ⟨_, rfl⟩
  rw [← hx2]
  have HV : Hid (x.add y.neg = x2) := by rw [hx2]; exact rfl
  clear hx2
  go_enter Tryz.func27, Tryz.ntmps27
  go_wp2_with fail
  have HB : Hid (Below w.heap.size w (((w.alloc (Obj.cells #[.bool x.ng, .bool x.ov, .slice A (dg x.sz).length cap] 52)).alloc (Obj.cells #[.bool y.ng, .bool y.ov, .slice B (dg y.sz).length cbp] 52)).alloc (Obj.cells #[.bool false, .bool false, .slice none 0 0] 52)).drew) := below_by
  have c0 := @inh_cell _ _ _ (show (((w.alloc (Obj.cells #[.bool x.ng, .bool x.ov, .slice A (dg x.sz).length cap] 52)).alloc (Obj.cells #[.bool y.ng, .bool y.ov, .slice B (dg y.sz).length cbp] 52)).alloc (Obj.cells #[.bool false, .bool false, .slice none 0 0] 52)).cell? ⟨w.heap.size, 0, none⟩ = some (.bool x.ng) from (by go_simp))
  have c1 := @inh_cell _ _ _ (show (((w.alloc (Obj.cells #[.bool x.ng, .bool x.ov, .slice A (dg x.sz).length cap] 52)).alloc (Obj.cells #[.bool y.ng, .bool y.ov, .slice B (dg y.sz).length cbp] 52)).alloc (Obj.cells #[.bool false, .bool false, .slice none 0 0] 52)).cell? ⟨w.heap.size, 1, none⟩ = some (.bool x.ov) from (by go_simp))
  have c2 := @inh_cell _ _ _ (show (((w.alloc (Obj.cells #[.bool x.ng, .bool x.ov, .slice A (dg x.sz).length cap] 52)).alloc (Obj.cells #[.bool y.ng, .bool y.ov, .slice B (dg y.sz).length cbp] 52)).alloc (Obj.cells #[.bool false, .bool false, .slice none 0 0] 52)).cell? ⟨w.heap.size, 2, none⟩ = some (.slice A (dg x.sz).length cap) from (by go_simp))
  have c3 := @inh_cell _ _ _ (show (((w.alloc (Obj.cells #[.bool x.ng, .bool x.ov, .slice A (dg x.sz).length cap] 52)).alloc (Obj.cells #[.bool y.ng, .bool y.ov, .slice B (dg y.sz).length cbp] 52)).alloc (Obj.cells #[.bool false, .bool false, .slice none 0 0] 52)).cell? ⟨w.heap.size + 1, 0, none⟩ = some (.bool y.ng) from (by go_simp))
  have c4 := @inh_cell _ _ _ (show (((w.alloc (Obj.cells #[.bool x.ng, .bool x.ov, .slice A (dg x.sz).length cap] 52)).alloc (Obj.cells #[.bool y.ng, .bool y.ov, .slice B (dg y.sz).length cbp] 52)).alloc (Obj.cells #[.bool false, .bool false, .slice none 0 0] 52)).cell? ⟨w.heap.size + 1, 1, none⟩ = some (.bool y.ov) from (by go_simp))
  have c5 := @inh_cell _ _ _ (show (((w.alloc (Obj.cells #[.bool x.ng, .bool x.ov, .slice A (dg x.sz).length cap] 52)).alloc (Obj.cells #[.bool y.ng, .bool y.ov, .slice B (dg y.sz).length cbp] 52)).alloc (Obj.cells #[.bool false, .bool false, .slice none 0 0] 52)).cell? ⟨w.heap.size + 1, 2, none⟩ = some (.slice B (dg y.sz).length cbp) from (by go_simp))
  refine wp_region_ghost' 4 (fun k => match k with | 2 => some (gBig y.neg) | 3 => some (gBig x2) | _ => none) (fun k => match k with | 3 => [2] | _ => []) (by kernel_rfl) (by kernel_rfl) ?_; refine ex_listH ?_; apply Exists.intro; refine ex_listH ?_; apply Exists.intro; refine ex_listH ⟨undef, ?_⟩; refine ex_listH ⟨undef, ?_⟩; refine ⟨[], fun gg NN hN => ?_⟩; simp only [List.append_eq, List.cons_append, List.nil_append, List.take_succ_cons, List.take_zero, List.drop_succ_cons, List.drop_zero]; (repeat (first | (refine lexH_quiet rfl ?_; go_big_quiet_step (first | exact rfl | (fail)); refine wpQuiet_nil ⟨?hd, ?_⟩; (case hd => (simp only [dstVh, Array.getD_eq_getD_getElem?, List.getElem?_toArray, List.getElem?_cons_zero, List.getElem?_cons_succ, Option.getD_some, List.getD_cons_zero, List.getD_cons_succ]; exact rfl))) | (refine lexH_ghost _ (by rfl) (by rfl) ?hex ?_; (case hex => (intro px; first | (refine ghost_call (fn := 60) (by go_simp; rfl) ?_; exact neg_r _ _ _ (BigIs.mk (HT.out.below (inh_low HB.out px)))) | (refine ghost_call (fn := 43) (by go_simp; rfl) ?_; exact add_x _ _ _ _ _ _ HV (BigIs.mk (HS.out.below (inh_low HB.out px))) (px.has 2 (hN 3 2 (by simp)) _ rfl)))); simp only [Act.put, List.setIfInBounds_toArray, List.set_cons_succ, List.set_cons_zero])))
  refine lexH_nil ?_
  intro w1 hb1' hh
  have hb1 : Below (((w.alloc (Obj.cells #[.bool x.ng, .bool x.ov, .slice A (dg x.sz).length cap] 52)).alloc (Obj.cells #[.bool y.ng, .bool y.ov, .slice B (dg y.sz).length cbp] 52)).alloc (Obj.cells #[.bool false, .bool false, .slice none 0 0] 52)).heap.size (((w.alloc (Obj.cells #[.bool x.ng, .bool x.ov, .slice A (dg x.sz).length cap] 52)).alloc (Obj.cells #[.bool y.ng, .bool y.ov, .slice B (dg y.sz).length cbp] 52)).alloc (Obj.cells #[.bool false, .bool false, .slice none 0 0] 52)) w1 := hb1'
  obtain ⟨A2, cap2, e7, hs2⟩ := (show BigIs w1 (gg 3) x2 from hh 3 _ (by decide) rfl).opened
  have HS2 := Lib.hid hs2
  rw [e7]
  clear hb1' hh hs2 e7 c0 c1 c2 c3 c4 c5
  have z_w1 := hb1.size; (try simp at z_w1); obtain ⟨y_w1_0_0, c_w1_0_0, f_w1_0_0, r_w1_0_0, t_w1_0_0, p_w1_0_0⟩ := bq hb1 (w.heap.size); obtain ⟨y_w1_0_1, c_w1_0_1, f_w1_0_1, r_w1_0_1, t_w1_0_1, p_w1_0_1⟩ := bq hb1 (w.heap.size + 1); obtain ⟨y_w1_0_2, c_w1_0_2, f_w1_0_2, r_w1_0_2, t_w1_0_2, p_w1_0_2⟩ := bq hb1 (w.heap.size + 1 + 1)
  go_wp2_with fail
  refine bodyPost_row 3 #[.bool x2.ng, .bool x2.ov, .slice A2 (dg x2.sz).length cap2] rfl rfl rfl Tryz.underlying52 rfl (by kernel_rfl) (row_of_cells 2 _ rfl (by intro i hi; rcases i with _ | _ | _ | i; (go_simp); (go_simp); (go_simp); exact absurd hi (by omega))) ⟨⟨_, rfl, BigIs.mk (HS2.out.res (by go_simp) (by go_simp) (by go_simp) _ _ _)⟩, below_by⟩
end Go.Proofs.YtnoidlacjiafdaaGreat
namespace Go.Proofs.YtnoidlacjiafdaaGreat
set_option linter.unusedSimpArgs false
open Go.RowKit

theorem right_x (s : Value) (N j : Nat) (k : Int) (w : World) (hk : k = (j : Int)) (hs : Rd w s (dg N)) (hx : (dg N).length ≤ 1000000) (hj : j ≤ 1000000) :
    Calls Tryz.prog 110 #[s, .int .i64 k] w fun e w' => (∃ s', e = .returned (.tuple #[s', .bool (gone N j)]) ∧ Rd w' s' (dg (N / 2 ^ j))) ∧ Below w.heap.size w w' := by
  subst hk; exact right_r s N j w hs hx hj
theorem Rd.one {w : World} {g : Nat} {a : Nat} (ha : a < 4294967296) (hg : g < w.heap.size) (c0 : w.cell? ⟨g, 0, none⟩ = some (.int .u32 (a : Int))) : Rd w (.slice (some ⟨g, 0, none⟩) 1 1) [a] := by
  refine ⟨fun d hd => ?_, .inr ⟨g, 0, 1, rfl, by simp, by simp, hg, fun i hi => ?_⟩⟩
  · simp at hd; rw [hd]; exact ha
  · rcases i with _ | i
    · exact c0
    · exact absurd hi (by simp)
set_option maxRecDepth 100000 in
set_option maxHeartbeats 1000000 in
theorem shift_r_still (a : Value) (x : WI) (k : Int) (w : World) (ha : BigIs w a x) (h : x.ov = true ∨ x.sz = 0) :
    Calls Tryz.prog 45 #[a, .int .i64 k] w fun e w' => (∃ v, e = .returned v ∧ BigIs w' v (x.shl k)) ∧ Below w.heap.size w w' := by
  rw [WI.shl_still x k h]
  obtain ⟨A, cap, rfl, hs⟩ := ha.opened
  have HS := Lib.hid hs
  clear hs ha
  cases hx : x.ov with
  | true =>
    go_enter Tryz.func45, Tryz.ntmps45
    go_wp2_with fail
    refine bodyPost_row 3 #[.bool x.ng, .bool true, .slice A (dg x.sz).length cap] rfl rfl rfl Tryz.underlying52 rfl (by kernel_rfl) (row_of_cells 2 _ rfl (by intro i hi; rcases i with _ | _ | _ | i; (go_simp); (go_simp); (go_simp); exact absurd hi (by omega))) ⟨⟨_, rfl, by rw [← hx]; exact BigIs.mk (HS.out.below below_by)⟩, below_by⟩
  | false =>
    have h0 : x.sz = 0 := by rcases h with h | h; rw [hx] at h; cases h; exact h
    have hl : (dg x.sz).length = 0 := by rw [h0, dg_zero]; rfl
    have HL := Lib.hid hl
    clear h h0
    rw [hl] at HS ⊢
    clear hl
    go_enter Tryz.func45, Tryz.ntmps45
    go_wp2_with fail
    refine bodyPost_row 3 #[.bool x.ng, .bool false, .slice A 0 cap] rfl rfl rfl Tryz.underlying52 rfl (by kernel_rfl) (row_of_cells 2 _ rfl (by intro i hi; rcases i with _ | _ | _ | i; (go_simp); (go_simp); (go_simp); exact absurd hi (by omega))) ⟨⟨_, rfl, by rw [← hx]; exact BigIs.mk (HS.out.below below_by)⟩, below_by⟩
set_option maxRecDepth 100000 in
set_option maxHeartbeats 1000000 in
theorem shift_r_up (a : Value) (x : WI) (k : Int) (w : World) (ha : BigIs w a x) (hx : x.ov = false) (h0 : x.sz ≠ 0) (hk : 0 ≤ k) :
    Calls Tryz.prog 45 #[a, .int .i64 k] w fun e w' => (∃ v, e = .returned v ∧ BigIs w' v (x.shl k)) ∧ Below w.heap.size w w' := by
  obtain ⟨A, cap, rfl, hs⟩ := ha.opened
  have HS := Lib.hid hs
  have LX := Lib.hid (dg_few x)
  have hl : ¬ (dg x.sz).length = 0 := fun e => h0 ((dg_nil _).1 (List.length_eq_zero_iff.1 e))
  clear hs ha
  rw [hx]
  by_cases hbig : 1023 < k
  · rw [WI.shl_over x k hx h0 hbig]
    clear h0
    go_enter Tryz.func45, Tryz.ntmps45
    go_wp2_with fail
    refine bodyPost_row 3 #[.bool false, .bool true, .slice none 0 0] rfl rfl rfl Tryz.underlying52 rfl (by kernel_rfl) (row_of_cells 2 _ rfl (by intro i hi; rcases i with _ | _ | _ | i; (go_simp); (go_simp); (go_simp); exact absurd hi (by omega))) ⟨⟨_, rfl, BigIs.overed _⟩, below_by⟩
  · obtain ⟨j, rfl⟩ : ∃ j : Nat, k = j := ⟨k.toNat, by omega⟩
    rw [WI.shl_up x j hx h0 (by omega)]
    obtain ⟨n, hn⟩ : ∃ n, x.ng = n := ⟨_, rfl⟩
    rw [hn]
    obtain ⟨x2, hx2⟩ : ∃ z, z = WI.of (sgn n (x.sz * 2 ^ j)) := ⟨_, rfl⟩
    rw [← hx2]
    have HV : Hid (WI.of (sgn n (nv (dg (nv (dg x.sz) * 2 ^ j)))) = x2) := by rw [nv_dg, nv_dg, hx2]; exact rfl
    have HJ : Hid (j ≤ 1000000) := by show j ≤ 1000000; omega
    clear hn hx2 h0
    go_enter Tryz.func45, Tryz.ntmps45
    go_wp2_with fail
    have HB : Hid (Below w.heap.size w ((w.alloc (Obj.cells #[.bool n, .bool false, .slice A (dg x.sz).length cap] 52)).alloc (Obj.cells #[.bool false, .bool false, .slice none 0 0] 52)).drew) := below_by
    have c0 := @inh_cell _ _ _ (show ((w.alloc (Obj.cells #[.bool n, .bool false, .slice A (dg x.sz).length cap] 52)).alloc (Obj.cells #[.bool false, .bool false, .slice none 0 0] 52)).cell? ⟨w.heap.size, 0, none⟩ = some (.bool n) from (by go_simp))
    have c1 := @inh_cell _ _ _ (show ((w.alloc (Obj.cells #[.bool n, .bool false, .slice A (dg x.sz).length cap] 52)).alloc (Obj.cells #[.bool false, .bool false, .slice none 0 0] 52)).cell? ⟨w.heap.size, 2, none⟩ = some (.slice A (dg x.sz).length cap) from (by go_simp))
    refine wp_region_ghost' 7 (fun k => match k with | 5 => some (gRd (dg (nv (dg x.sz) * 2 ^ j))) | 6 => some (gBig x2) | _ => none) (fun k => match k with | 6 => [5] | _ => []) (by kernel_rfl) (by kernel_rfl) ?_; refine ex_listH ?_; apply Exists.intro; refine ex_listH ?_; apply Exists.intro; refine ex_listH ?_; apply Exists.intro; refine ex_listH ?_; apply Exists.intro; refine ex_listH ?_; apply Exists.intro; refine ex_listH ⟨undef, ?_⟩; refine ex_listH ⟨undef, ?_⟩; refine ⟨[], fun gg NN hN => ?_⟩; simp only [List.append_eq, List.cons_append, List.nil_append, List.take_succ_cons, List.take_zero, List.drop_succ_cons, List.drop_zero]; (repeat (first | (refine lexH_quiet rfl ?_; go_big_quiet_step (first | exact rfl | (fail)); refine wpQuiet_nil ⟨?hd, ?_⟩; (case hd => (simp only [dstVh, Array.getD_eq_getD_getElem?, List.getElem?_toArray, List.getElem?_cons_zero, List.getElem?_cons_succ, Option.getD_some, List.getD_cons_zero, List.getD_cons_succ]; exact rfl))) | (refine lexH_ghost _ (by rfl) (by rfl) ?hex ?_; (case hex => (intro px; first | (refine ghost_call (fn := 109) (by go_simp; rfl) ?_; exact left_r _ _ _ _ (HS.out.below (inh_low HB.out px)) (Nat.le_trans LX.out (by decide)) HJ.out) | (refine ghost_call (fn := 81) (by go_simp; rfl) ?_; exact made_x _ _ _ _ _ HV (px.has 5 (hN 6 5 (by simp)) _ rfl)))); simp only [Act.put, List.setIfInBounds_toArray, List.set_cons_succ, List.set_cons_zero])))
    refine lexH_nil ?_
    intro w1 hb1' hh
    have hb1 : Below ((w.alloc (Obj.cells #[.bool n, .bool false, .slice A (dg x.sz).length cap] 52)).alloc (Obj.cells #[.bool false, .bool false, .slice none 0 0] 52)).heap.size ((w.alloc (Obj.cells #[.bool n, .bool false, .slice A (dg x.sz).length cap] 52)).alloc (Obj.cells #[.bool false, .bool false, .slice none 0 0] 52)) w1 := hb1'
    obtain ⟨A2, cap2, e7, hs2⟩ := (show BigIs w1 (gg 6) x2 from hh 6 _ (by decide) rfl).opened
    have HS2 := Lib.hid hs2
    rw [e7]
    clear hb1' hh hs2 e7 c0 c1
    have z_w1 := hb1.size; (try simp at z_w1); obtain ⟨y_w1_0_0, c_w1_0_0, f_w1_0_0, r_w1_0_0, t_w1_0_0, p_w1_0_0⟩ := bq hb1 (w.heap.size); obtain ⟨y_w1_0_1, c_w1_0_1, f_w1_0_1, r_w1_0_1, t_w1_0_1, p_w1_0_1⟩ := bq hb1 (w.heap.size + 1)
    go_wp2_with fail
    refine bodyPost_row 3 #[.bool x2.ng, .bool x2.ov, .slice A2 (dg x2.sz).length cap2] rfl rfl rfl Tryz.underlying52 rfl (by kernel_rfl) (row_of_cells 2 _ rfl (by intro i hi; rcases i with _ | _ | _ | i; (go_simp); (go_simp); (go_simp); exact absurd hi (by omega))) ⟨⟨_, rfl, BigIs.mk (HS2.out.res (by go_simp) (by go_simp) (by go_simp) _ _ _)⟩, below_by⟩
set_option maxRecDepth 100000 in
set_option maxHeartbeats 1000000 in
theorem shift_r_down (a : Value) (x : WI) (k : Int) (w : World) (ha : BigIs w a x) (hx : x.ov = false) (h0 : x.sz ≠ 0) (hk : k < 0) :
    Calls Tryz.prog 45 #[a, .int .i64 k] w fun e w' => (∃ v, e = .returned v ∧ BigIs w' v (x.shl k)) ∧ Below w.heap.size w w' := by
  obtain ⟨A, cap, rfl, hs⟩ := ha.opened
  have HS := Lib.hid hs
  have LX := Lib.hid (dg_few x)
  have hl : ¬ (dg x.sz).length = 0 := fun e => h0 ((dg_nil _).1 (List.length_eq_zero_iff.1 e))
  clear hs ha
  rw [hx]
  obtain ⟨j, hj⟩ : ∃ j : Nat, j = (if k < -2000 then 2000 else (-k).toNat) := ⟨_, rfl⟩
  have hj2 : j ≤ 2000 := by rw [hj]; split <;> omega
  rw [WI.shl_down x k j hx h0 hk (by rw [hj]; split <;> omega)]
  have HJ : Hid (j ≤ 1000000) := by show j ≤ 1000000; omega
  have HQ : Hid ((dg (x.sz / 2 ^ j)).length ≤ 1000000) := Nat.le_trans (dg_len_mono (Nat.div_le_self _ _)) (Nat.le_trans (dg_few x) (by decide))
  obtain ⟨n, hn⟩ : ∃ n, x.ng = n := ⟨_, rfl⟩
  rw [hn]
  obtain ⟨L, hL⟩ : ∃ L, lost x.sz j = L := ⟨_, rfl⟩
  rw [hL]
  have HL : Hid (gone x.sz j = L) := hL
  obtain ⟨x2, hx2⟩ : ∃ z, z = WI.of (sgn n (if (n && L) = true then x.sz / 2 ^ j + 1 else x.sz / 2 ^ j)) := ⟨_, rfl⟩
  rw [← hx2]
  have HV : Hid ((n && L) = false → Hid (WI.of (sgn n (nv (dg (x.sz / 2 ^ j)))) = x2)) := fun h => by rw [nv_dg, hx2, h]; exact rfl
  have HV1 : Hid ((n && L) = true → Hid (WI.of (sgn n (nv (dg (nv (dg (x.sz / 2 ^ j)) + nv [1])))) = x2)) := fun h => by rw [nv_dg, nv_dg, hx2, h]; exact rfl
  clear hn hx2 h0 hL
  have HX : Hid (k < -2000 ∧ j = 2000 ∨ ¬ k < -2000 ∧ k = -(j : Int)) := by
    show _ ∨ _
    rw [hj]; split <;> omega
  clear hj
  have H2 : Hid (k < -2000 → (2000 : Int) = (j : Int)) := fun h => by rcases HX.out with ⟨-, h2⟩ | ⟨h1, -⟩; omega; exact absurd h h1
  have h3 : ¬ (0 : Int) ≤ k := by omega
  by_cases hk2 : k < -2000
  · have H3 := Lib.hid (H2.out hk2)
    clear HX H2
    go_enter Tryz.func45, Tryz.ntmps45
    go_wp2_with fail
    refine (right_x _ _ j _ _ H3.out (HS.out.below below_by) (Nat.le_trans LX.out (by decide)) HJ.out).mono ?_
    rintro e w2 ⟨⟨s', rfl, hs'⟩, hb2⟩; have z_w2 := hb2.size; (try simp at z_w2); obtain ⟨y_w2_0_0, c_w2_0_0, f_w2_0_0, r_w2_0_0, t_w2_0_0, p_w2_0_0⟩ := bq hb2 (w.heap.size); obtain ⟨y_w2_0_1, c_w2_0_1, f_w2_0_1, r_w2_0_1, t_w2_0_1, p_w2_0_1⟩ := bq hb2 (w.heap.size + 1)
    rw [HL.out]
    obtain ⟨A1, cap1, rfl⟩ := hs'.form
    have HW := Lib.hid hs'
    clear hs'
    cases n with
    | false =>
      cases L with
      | false =>
        go_wp2_with fail
        refine (made_x _ _ _ _ x2 (HV.out rfl) (HW.out.below below_by)).mono ?_
        rintro e w3 ⟨⟨v, rfl, hv⟩, hb3⟩; have z_w3 := hb3.size; (try simp at z_w3); obtain ⟨y_w3_0_0, c_w3_0_0, f_w3_0_0, r_w3_0_0, t_w3_0_0, p_w3_0_0⟩ := bq hb3 (w.heap.size); obtain ⟨y_w3_0_1, c_w3_0_1, f_w3_0_1, r_w3_0_1, t_w3_0_1, p_w3_0_1⟩ := bq hb3 (w.heap.size + 1)
        obtain ⟨A2, cap2, rfl, hs2⟩ := hv.opened
        have HS2 := Lib.hid hs2
        clear hs2 hv
        go_wp2_with fail
        refine bodyPost_row 3 #[.bool x2.ng, .bool x2.ov, .slice A2 (dg x2.sz).length cap2] rfl rfl rfl Tryz.underlying52 rfl (by kernel_rfl) (row_of_cells 2 _ rfl (by intro i hi; rcases i with _ | _ | _ | i; (go_simp); (go_simp); (go_simp); exact absurd hi (by omega))) ⟨⟨_, rfl, BigIs.mk (HS2.out.res (by go_simp) (by go_simp) (by go_simp) _ _ _)⟩, below_by⟩
      | true =>
        go_wp2_with fail
        refine (made_x _ _ _ _ x2 (HV.out rfl) (HW.out.below below_by)).mono ?_
        rintro e w3 ⟨⟨v, rfl, hv⟩, hb3⟩; have z_w3 := hb3.size; (try simp at z_w3); obtain ⟨y_w3_0_0, c_w3_0_0, f_w3_0_0, r_w3_0_0, t_w3_0_0, p_w3_0_0⟩ := bq hb3 (w.heap.size); obtain ⟨y_w3_0_1, c_w3_0_1, f_w3_0_1, r_w3_0_1, t_w3_0_1, p_w3_0_1⟩ := bq hb3 (w.heap.size + 1)
        obtain ⟨A2, cap2, rfl, hs2⟩ := hv.opened
        have HS2 := Lib.hid hs2
        clear hs2 hv
        go_wp2_with fail
        refine bodyPost_row 3 #[.bool x2.ng, .bool x2.ov, .slice A2 (dg x2.sz).length cap2] rfl rfl rfl Tryz.underlying52 rfl (by kernel_rfl) (row_of_cells 2 _ rfl (by intro i hi; rcases i with _ | _ | _ | i; (go_simp); (go_simp); (go_simp); exact absurd hi (by omega))) ⟨⟨_, rfl, BigIs.mk (HS2.out.res (by go_simp) (by go_simp) (by go_simp) _ _ _)⟩, below_by⟩
    | true =>
      cases L with
      | false =>
        go_wp2_with fail
        refine (made_x _ _ _ _ x2 (HV.out rfl) (HW.out.below below_by)).mono ?_
        rintro e w3 ⟨⟨v, rfl, hv⟩, hb3⟩; have z_w3 := hb3.size; (try simp at z_w3); obtain ⟨y_w3_0_0, c_w3_0_0, f_w3_0_0, r_w3_0_0, t_w3_0_0, p_w3_0_0⟩ := bq hb3 (w.heap.size); obtain ⟨y_w3_0_1, c_w3_0_1, f_w3_0_1, r_w3_0_1, t_w3_0_1, p_w3_0_1⟩ := bq hb3 (w.heap.size + 1)
        obtain ⟨A2, cap2, rfl, hs2⟩ := hv.opened
        have HS2 := Lib.hid hs2
        clear hs2 hv
        go_wp2_with fail
        refine bodyPost_row 3 #[.bool x2.ng, .bool x2.ov, .slice A2 (dg x2.sz).length cap2] rfl rfl rfl Tryz.underlying52 rfl (by kernel_rfl) (row_of_cells 2 _ rfl (by intro i hi; rcases i with _ | _ | _ | i; (go_simp); (go_simp); (go_simp); exact absurd hi (by omega))) ⟨⟨_, rfl, BigIs.mk (HS2.out.res (by go_simp) (by go_simp) (by go_simp) _ _ _)⟩, below_by⟩
      | true =>
        go_wp2_with fail
        refine (plus_r _ _ _ [1] _ (HW.out.below below_by) (Rd.one (by decide) (by first | omega | (simp; done) | (simp; omega) | fail) (by go_simp)) HQ.out (by decide)).mono ?_
        rintro e w4 ⟨⟨s4, rfl, hs4⟩, hb4⟩; have z_w4 := hb4.size; (try simp at z_w4); obtain ⟨y_w4_0_0, c_w4_0_0, f_w4_0_0, r_w4_0_0, t_w4_0_0, p_w4_0_0⟩ := bq hb4 (w.heap.size); obtain ⟨y_w4_0_1, c_w4_0_1, f_w4_0_1, r_w4_0_1, t_w4_0_1, p_w4_0_1⟩ := bq hb4 (w.heap.size + 1)
        obtain ⟨A4, cap4, rfl⟩ := hs4.form
        have HW4 := Lib.hid hs4
        clear hs4
        go_wp2_with fail
        refine (made_x _ _ _ _ x2 (HV1.out rfl) (HW4.out.below below_by)).mono ?_
        rintro e w3 ⟨⟨v, rfl, hv⟩, hb3⟩; have z_w3 := hb3.size; (try simp at z_w3); obtain ⟨y_w3_0_0, c_w3_0_0, f_w3_0_0, r_w3_0_0, t_w3_0_0, p_w3_0_0⟩ := bq hb3 (w.heap.size); obtain ⟨y_w3_0_1, c_w3_0_1, f_w3_0_1, r_w3_0_1, t_w3_0_1, p_w3_0_1⟩ := bq hb3 (w.heap.size + 1)
        obtain ⟨A2, cap2, rfl, hs2⟩ := hv.opened
        have HS2 := Lib.hid hs2
        clear hs2 hv
        go_wp2_with fail
        refine bodyPost_row 3 #[.bool x2.ng, .bool x2.ov, .slice A2 (dg x2.sz).length cap2] rfl rfl rfl Tryz.underlying52 rfl (by kernel_rfl) (row_of_cells 2 _ rfl (by intro i hi; rcases i with _ | _ | _ | i; (go_simp); (go_simp); (go_simp); exact absurd hi (by omega))) ⟨⟨_, rfl, BigIs.mk (HS2.out.res (by go_simp) (by go_simp) (by go_simp) _ _ _)⟩, below_by⟩
  · have H3 : Hid (IntKind.i64.wrap (-k) = (j : Int)) := by
      show _ = _
      rw [IntKind.wrap_i64]
      rcases HX.out with ⟨h1, -⟩ | ⟨-, h2⟩; exact absurd h1 hk2; rw [h2]; omega
    obtain rfl : k = -(j : Int) := by rcases HX.out with ⟨h1, -⟩ | ⟨-, h2⟩; exact absurd h1 hk2; exact h2
    clear HX H2
    go_enter Tryz.func45, Tryz.ntmps45
    go_wp2_with fail
    refine (right_x _ _ j _ _ rfl (HS.out.below below_by) (Nat.le_trans LX.out (by decide)) HJ.out).mono ?_
    rintro e w2 ⟨⟨s', rfl, hs'⟩, hb2⟩; have z_w2 := hb2.size; (try simp at z_w2); obtain ⟨y_w2_0_0, c_w2_0_0, f_w2_0_0, r_w2_0_0, t_w2_0_0, p_w2_0_0⟩ := bq hb2 (w.heap.size); obtain ⟨y_w2_0_1, c_w2_0_1, f_w2_0_1, r_w2_0_1, t_w2_0_1, p_w2_0_1⟩ := bq hb2 (w.heap.size + 1)
    rw [HL.out]
    obtain ⟨A1, cap1, rfl⟩ := hs'.form
    have HW := Lib.hid hs'
    clear hs'
    cases n with
    | false =>
      cases L with
      | false =>
        go_wp2_with fail
        refine (made_x _ _ _ _ x2 (HV.out rfl) (HW.out.below below_by)).mono ?_
        rintro e w3 ⟨⟨v, rfl, hv⟩, hb3⟩; have z_w3 := hb3.size; (try simp at z_w3); obtain ⟨y_w3_0_0, c_w3_0_0, f_w3_0_0, r_w3_0_0, t_w3_0_0, p_w3_0_0⟩ := bq hb3 (w.heap.size); obtain ⟨y_w3_0_1, c_w3_0_1, f_w3_0_1, r_w3_0_1, t_w3_0_1, p_w3_0_1⟩ := bq hb3 (w.heap.size + 1)
        obtain ⟨A2, cap2, rfl, hs2⟩ := hv.opened
        have HS2 := Lib.hid hs2
        clear hs2 hv
        go_wp2_with fail
        refine bodyPost_row 3 #[.bool x2.ng, .bool x2.ov, .slice A2 (dg x2.sz).length cap2] rfl rfl rfl Tryz.underlying52 rfl (by kernel_rfl) (row_of_cells 2 _ rfl (by intro i hi; rcases i with _ | _ | _ | i; (go_simp); (go_simp); (go_simp); exact absurd hi (by omega))) ⟨⟨_, rfl, BigIs.mk (HS2.out.res (by go_simp) (by go_simp) (by go_simp) _ _ _)⟩, below_by⟩
      | true =>
        go_wp2_with fail
        refine (made_x _ _ _ _ x2 (HV.out rfl) (HW.out.below below_by)).mono ?_
        rintro e w3 ⟨⟨v, rfl, hv⟩, hb3⟩; have z_w3 := hb3.size; (try simp at z_w3); obtain ⟨y_w3_0_0, c_w3_0_0, f_w3_0_0, r_w3_0_0, t_w3_0_0, p_w3_0_0⟩ := bq hb3 (w.heap.size); obtain ⟨y_w3_0_1, c_w3_0_1, f_w3_0_1, r_w3_0_1, t_w3_0_1, p_w3_0_1⟩ := bq hb3 (w.heap.size + 1)
        obtain ⟨A2, cap2, rfl, hs2⟩ := hv.opened
        have HS2 := Lib.hid hs2
        clear hs2 hv
        go_wp2_with fail
        refine bodyPost_row 3 #[.bool x2.ng, .bool x2.ov, .slice A2 (dg x2.sz).length cap2] rfl rfl rfl Tryz.underlying52 rfl (by kernel_rfl) (row_of_cells 2 _ rfl (by intro i hi; rcases i with _ | _ | _ | i; (go_simp); (go_simp); (go_simp); exact absurd hi (by omega))) ⟨⟨_, rfl, BigIs.mk (HS2.out.res (by go_simp) (by go_simp) (by go_simp) _ _ _)⟩, below_by⟩
    | true =>
      cases L with
      | false =>
        go_wp2_with fail
        refine (made_x _ _ _ _ x2 (HV.out rfl) (HW.out.below below_by)).mono ?_
        rintro e w3 ⟨⟨v, rfl, hv⟩, hb3⟩; have z_w3 := hb3.size; (try simp at z_w3); obtain ⟨y_w3_0_0, c_w3_0_0, f_w3_0_0, r_w3_0_0, t_w3_0_0, p_w3_0_0⟩ := bq hb3 (w.heap.size); obtain ⟨y_w3_0_1, c_w3_0_1, f_w3_0_1, r_w3_0_1, t_w3_0_1, p_w3_0_1⟩ := bq hb3 (w.heap.size + 1)
        obtain ⟨A2, cap2, rfl, hs2⟩ := hv.opened
        have HS2 := Lib.hid hs2
        clear hs2 hv
        go_wp2_with fail
        refine bodyPost_row 3 #[.bool x2.ng, .bool x2.ov, .slice A2 (dg x2.sz).length cap2] rfl rfl rfl Tryz.underlying52 rfl (by kernel_rfl) (row_of_cells 2 _ rfl (by intro i hi; rcases i with _ | _ | _ | i; (go_simp); (go_simp); (go_simp); exact absurd hi (by omega))) ⟨⟨_, rfl, BigIs.mk (HS2.out.res (by go_simp) (by go_simp) (by go_simp) _ _ _)⟩, below_by⟩
      | true =>
        go_wp2_with fail
        refine (plus_r _ _ _ [1] _ (HW.out.below below_by) (Rd.one (by decide) (by first | omega | (simp; done) | (simp; omega) | fail) (by go_simp)) HQ.out (by decide)).mono ?_
        rintro e w4 ⟨⟨s4, rfl, hs4⟩, hb4⟩; have z_w4 := hb4.size; (try simp at z_w4); obtain ⟨y_w4_0_0, c_w4_0_0, f_w4_0_0, r_w4_0_0, t_w4_0_0, p_w4_0_0⟩ := bq hb4 (w.heap.size); obtain ⟨y_w4_0_1, c_w4_0_1, f_w4_0_1, r_w4_0_1, t_w4_0_1, p_w4_0_1⟩ := bq hb4 (w.heap.size + 1)
        obtain ⟨A4, cap4, rfl⟩ := hs4.form
        have HW4 := Lib.hid hs4
        clear hs4
        go_wp2_with fail
        refine (made_x _ _ _ _ x2 (HV1.out rfl) (HW4.out.below below_by)).mono ?_
        rintro e w3 ⟨⟨v, rfl, hv⟩, hb3⟩; have z_w3 := hb3.size; (try simp at z_w3); obtain ⟨y_w3_0_0, c_w3_0_0, f_w3_0_0, r_w3_0_0, t_w3_0_0, p_w3_0_0⟩ := bq hb3 (w.heap.size); obtain ⟨y_w3_0_1, c_w3_0_1, f_w3_0_1, r_w3_0_1, t_w3_0_1, p_w3_0_1⟩ := bq hb3 (w.heap.size + 1)
        obtain ⟨A2, cap2, rfl, hs2⟩ := hv.opened
        have HS2 := Lib.hid hs2
        clear hs2 hv
        go_wp2_with fail
        refine bodyPost_row 3 #[.bool x2.ng, .bool x2.ov, .slice A2 (dg x2.sz).length cap2] rfl rfl rfl Tryz.underlying52 rfl (by kernel_rfl) (row_of_cells 2 _ rfl (by intro i hi; rcases i with _ | _ | _ | i; (go_simp); (go_simp); (go_simp); exact absurd hi (by omega))) ⟨⟨_, rfl, BigIs.mk (HS2.out.res (by go_simp) (by go_simp) (by go_simp) _ _ _)⟩, below_by⟩
/-- Shift. -/
theorem shift_r (a : Value) (x : WI) (k : Int) (w : World) (ha : BigIs w a x) :
    Calls Tryz.prog 45 #[a, .int .i64 k] w fun e w' => (∃ v, e = .returned v ∧ BigIs w' v (x.shl k)) ∧ Below w.heap.size w w' := by
  by_cases h : x.ov = true ∨ x.sz = 0
  · exact shift_r_still a x k w ha h
  · have hx : x.ov = false := by cases hx : x.ov; rfl; exact absurd (.inl hx) h
    have h0 : x.sz ≠ 0 := fun e => h (.inr e)
    by_cases hk : 0 ≤ k
    · exact shift_r_up a x k w ha hx h0 hk
    · exact shift_r_down a x k w ha hx h0 (by omega)
end Go.Proofs.YtnoidlacjiafdaaGreat
