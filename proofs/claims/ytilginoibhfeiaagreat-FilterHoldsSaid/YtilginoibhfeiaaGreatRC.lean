/- The walks of the document's Of, Neg, Add. The walks of the document's Mul, Sub, Shift. The walk of the document's Shift. -/
import Derived.Test.YtilginoibhfeiaaGreatRB
import Derived.Test.YtilginoibhfeiaaGreatBW
import Derived.Test.YtilginoibhfeiaaGreatSH
namespace Go.Proofs.YtilginoibhfeiaaGreat
set_option linter.unusedSimpArgs false
open Go.RowKit

theorem BigIs.opened {w : World} {v : Value} {x : WI} (h : BigIs w v x) : ∃ A cap, v = .agg #[.bool x.ng, .bool x.ov, .slice A (dg x.sz).length cap] ∧ Rd w (.slice A (dg x.sz).length cap) (dg x.sz) := by
  obtain ⟨s, rfl, hr⟩ := h
  obtain ⟨A, cap, rfl⟩ := hr.form
  exact ⟨A, cap, rfl, hr⟩
theorem BigIs.mk {w : World} {x : WI} {s : Value} (h : Rd w s (dg x.sz)) : BigIs w (.agg #[.bool x.ng, .bool x.ov, s]) x := ⟨s, rfl, h⟩
/-- What is no word may turn. -/
theorem Rd.set {w : World} {s : Value} {xs : List Nat} (h : Rd w s xs) {g k : Nat} {u : Value} (hc : w.cell? ⟨g, k, none⟩ = some u) (hu : ∀ n, u ≠ .int .u32 n) (v : Value) : Rd (w.setCell ⟨g, k, none⟩ v) s xs := by
  obtain ⟨hd, h | ⟨b, o, cap, hs, h1, h2, h3, h4⟩⟩ := h
  · exact ⟨hd, .inl h⟩
  · refine ⟨hd, .inr ⟨b, o, cap, hs, h1, h2, by simpa using h3, fun i hi => ?_⟩⟩
    rw [World.cell?_setCell_other]
    · exact h4 i hi
    · intro e
      have := h4 i hi
      rw [← e, hc] at this
      exact hu _ (Option.some.inj this)
theorem Rd.set3 {w : World} {s : Value} {xs : List Nat} (h : Rd w s xs) {g : Nat} {x y : Bool} {A : Option Addr} {n m : Nat} (c0 : w.cell? ⟨g, 0, none⟩ = some (.bool x)) (c1 : w.cell? ⟨g, 1, none⟩ = some (.bool y)) (c2 : w.cell? ⟨g, 2, none⟩ = some (.slice A n m)) (v0 v1 v2 : Value) :
    Rd (((w.setCell ⟨g, 0, none⟩ v0).setCell ⟨g, 1, none⟩ v1).setCell ⟨g, 2, none⟩ v2) s xs :=
by
  have d1 : (w.setCell ⟨g, 0, none⟩ v0).cell? ⟨g, 1, none⟩ = some (.bool y) := (World.cell?_setCell_other _ _ _ _ (by simp)).trans c1
  have d2 : ((w.setCell ⟨g, 0, none⟩ v0).setCell ⟨g, 1, none⟩ v1).cell? ⟨g, 2, none⟩ = some (.slice A n m) := (World.cell?_setCell_other _ _ _ _ (by simp)).trans ((World.cell?_setCell_other _ _ _ _ (by simp)).trans c2)
  exact ((h.set c0 (fun n e => by cases e) v0).set d1 (fun n e => by cases e) v1).set d2 (fun n e => by cases e) v2
/-- Laid into a result's cells. -/
theorem Rd.res {w : World} {s : Value} {xs : List Nat} (h : Rd w s xs) {g : Nat} (c0 : w.cell? ⟨g, 0, none⟩ = some (.bool false)) (c1 : w.cell? ⟨g, 1, none⟩ = some (.bool false)) (c2 : w.cell? ⟨g, 2, none⟩ = some (.slice none 0 0)) (v0 v1 v2 : Value) :
    Rd (((w.setCell ⟨g, 0, none⟩ v0).setCell ⟨g, 1, none⟩ v1).setCell ⟨g, 2, none⟩ v2) s xs := h.set3 c0 c1 c2 v0 v1 v2
theorem made_x (neg : Bool) (s : Value) (xs : List Nat) (w : World) (x : WI) (hx : Hid (WI.of (sgn neg (nv xs)) = x)) (h : Rd w s xs) :
    Calls Tryz.prog 159 #[.bool neg, s] w fun e w' => (∃ v, e = .returned v ∧ BigIs w' v x) ∧ Below w.heap.size w w' := by
  rw [← hx.out]; exact made_r neg s xs w h
theorem sgn_of' (x : Int) : sgn (decide (x < 0)) x.natAbs = x := by unfold sgn; by_cases h : x < 0 <;> simp [h] <;> omega
theorem nv_two (a b : Nat) : nv [a, b] = a + 4294967296 * b := by show a + 4294967296 * (b + 4294967296 * 0) = _; omega
theorem Rd.two {w : World} {g : Nat} {a b : Nat} (ha : a < 4294967296) (hb : b < 4294967296) (hg : g < w.heap.size) (c0 : w.cell? ⟨g, 0, none⟩ = some (.int .u32 (a : Int))) (c1 : w.cell? ⟨g, 1, none⟩ = some (.int .u32 (b : Int))) : Rd w (.slice (some ⟨g, 0, none⟩) 2 2) [a, b] := by
  refine ⟨fun d hd => ?_, .inr ⟨g, 0, 2, rfl, by simp, by simp, hg, fun i hi => ?_⟩⟩
  · simp at hd; rcases hd with rfl | rfl <;> assumption
  · rcases i with _ | _ | i
    · exact c0
    · exact c1
    · exact absurd hi (by simp)
set_option maxRecDepth 100000 in
set_option maxHeartbeats 1000000 in
/-- Of. -/
theorem of_r (n : Int) (h1 : -9223372036854775808 ≤ n) (h2 : n ≤ 9223372036854775807) (w : World) :
    Calls Tryz.prog 105 #[.int .i64 n] w fun e w' => (∃ v, e = .returned v ∧ BigIs w' v (WI.of n)) ∧ Below w.heap.size w w' := by
  obtain ⟨N, hN⟩ : ∃ N, N = n.natAbs := ⟨_, rfl⟩
  obtain ⟨a, ha⟩ : ∃ a, a = N % 4294967296 := ⟨_, rfl⟩
  obtain ⟨b, hb⟩ : ∃ b, b = N / 4294967296 := ⟨_, rfl⟩
  have hal : a < 4294967296 := by omega
  have hbl : b < 4294967296 := by omega
  have HV : Hid (WI.of (sgn (decide (n < 0)) (nv [a, b])) = WI.of n) := by
    show _ = _
    rw [nv_two, show a + 4294967296 * b = n.natAbs by omega, sgn_of']
  by_cases hneg : n < 0
  · have e1 : IntKind.u64.wrap n = 18446744073709551616 - (N : Int) := by rw [IntKind.wrap_u64]; omega
    have e2 : IntKind.u64.wrap (-(18446744073709551616 - (N : Int))) = (N : Int) := by rw [IntKind.wrap_u64]; omega
    have e3 : IntKind.u32.wrap (N : Int) = (a : Int) := by rw [IntKind.wrap_u32]; omega
    have e4 : IntKind.u32.wrap ((N : Int) / 4294967296) = (b : Int) := by rw [IntKind.wrap_u32]; omega
    have e5 : decide (n < 0) = true := by simp [hneg]
    rw [e5] at HV
    clear ha hb hN h1 h2
    go_enter Tryz.func105, Tryz.ntmps105
    go_wp2_with fail
    refine (made_r _ _ [a, b] _ (Rd.two hal hbl (by first | omega | (simp; done) | (simp; omega) | fail) (by go_simp) (by go_simp))).mono ?_
    rintro e w1 ⟨⟨v, rfl, hv⟩, hb1⟩; have z_w1 := hb1.size; (try simp at z_w1); obtain ⟨y_w1_0_0, c_w1_0_0, f_w1_0_0, r_w1_0_0, t_w1_0_0, p_w1_0_0⟩ := bq hb1 (w.heap.size)
    rw [HV.out] at hv
    obtain ⟨A, cap, rfl, hs⟩ := hv.opened
    have HS := Lib.hid hs
    clear hs hv
    go_wp2_with fail
    refine bodyPost_row 3 #[.bool (WI.of n).ng, .bool (WI.of n).ov, .slice A (dg (WI.of n).sz).length cap] rfl rfl rfl Tryz.underlying65 rfl (by kernel_rfl) (row_of_cells 2 _ rfl (by intro i hi; rcases i with _ | _ | _ | i; (go_simp); (go_simp); (go_simp); exact absurd hi (by omega))) ⟨⟨_, rfl, BigIs.mk (HS.out.res (by go_simp) (by go_simp) (by go_simp) _ _ _)⟩, below_by⟩
  · have e1 : IntKind.u64.wrap n = (N : Int) := by rw [IntKind.wrap_u64]; omega
    have e3 : IntKind.u32.wrap (N : Int) = (a : Int) := by rw [IntKind.wrap_u32]; omega
    have e4 : IntKind.u32.wrap ((N : Int) / 4294967296) = (b : Int) := by rw [IntKind.wrap_u32]; omega
    have e5 : decide (n < 0) = false := by simp [hneg]
    rw [e5] at HV
    clear ha hb hN h1 h2
    go_enter Tryz.func105, Tryz.ntmps105
    go_wp2_with fail
    refine (made_r _ _ [a, b] _ (Rd.two hal hbl (by first | omega | (simp; done) | (simp; omega) | fail) (by go_simp) (by go_simp))).mono ?_
    rintro e w1 ⟨⟨v, rfl, hv⟩, hb1⟩; have z_w1 := hb1.size; (try simp at z_w1); obtain ⟨y_w1_0_0, c_w1_0_0, f_w1_0_0, r_w1_0_0, t_w1_0_0, p_w1_0_0⟩ := bq hb1 (w.heap.size)
    rw [HV.out] at hv
    obtain ⟨A, cap, rfl, hs⟩ := hv.opened
    have HS := Lib.hid hs
    clear hs hv
    go_wp2_with fail
    refine bodyPost_row 3 #[.bool (WI.of n).ng, .bool (WI.of n).ov, .slice A (dg (WI.of n).sz).length cap] rfl rfl rfl Tryz.underlying65 rfl (by kernel_rfl) (row_of_cells 2 _ rfl (by intro i hi; rcases i with _ | _ | _ | i; (go_simp); (go_simp); (go_simp); exact absurd hi (by omega))) ⟨⟨_, rfl, BigIs.mk (HS.out.res (by go_simp) (by go_simp) (by go_simp) _ _ _)⟩, below_by⟩
theorem dg_len_le (N k : Nat) (h : N < 4294967296 ^ k) : (dg N).length ≤ k := by
  induction k generalizing N with
  | zero => rw [show N = 0 by simpa using h, dg_zero]; exact Nat.le_refl _
  | succ k ih =>
    by_cases h0 : N = 0
    · rw [h0, dg_zero]; exact Nat.zero_le _
    · rw [dg_pos N h0, List.length_cons]
      refine Nat.succ_le_succ (ih _ ?_)
      rw [Nat.div_lt_iff_lt_mul (by decide), ← Nat.pow_succ]; exact h
/-- Its digits are few. -/
theorem dg_few (x : WI) : (dg x.sz).length ≤ 32 := by
  have key : ∀ k, k = 32 → x.sz < 4294967296 ^ k := fun k hk => by
    rw [show (4294967296 : Nat) = 2 ^ 32 from rfl, ← Nat.pow_mul]
    exact Nat.lt_of_lt_of_le x.sz_lt (lim_le_pow _ (by omega))
  exact dg_len_le _ _ (key 32 rfl)
theorem cmpD_ge {N M : Nat} (h : M ≤ N) : (0 : Int) ≤ cmpD N M := by
  rcases Nat.lt_or_ge M N with h1 | h1
  · rw [cmpD_gt h1]; decide
  · rw [show N = M by omega, cmpD_eq]; decide
theorem cmpD_not_ge {N M : Nat} (h : ¬ M ≤ N) : ¬ (0 : Int) ≤ cmpD N M := by rw [cmpD_lt (by omega)]; decide
theorem dg_len_mono {N M : Nat} (h : N ≤ M) : (dg N).length ≤ (dg M).length := by
  rcases Nat.lt_or_ge (dg M).length (dg N).length with h1 | h1
  · have := dg_len_lt _ _ h1; omega
  · exact h1
end Go.Proofs.YtilginoibhfeiaaGreat
namespace Go.Proofs.YtilginoibhfeiaaGreat
set_option linter.unusedSimpArgs false
open Go.RowKit

end Go.Proofs.YtilginoibhfeiaaGreat
namespace Go.Proofs.YtilginoibhfeiaaGreat
set_option linter.unusedSimpArgs false
open Go.RowKit

theorem right_x (s : Value) (N j : Nat) (k : Int) (w : World) (hk : k = (j : Int)) (hs : Rd w s (dg N)) (hx : (dg N).length ≤ 1000000) (hj : j ≤ 1000000) :
    Calls Tryz.prog 172 #[s, .int .i64 k] w fun e w' => (∃ s', e = .returned (.tuple #[s', .bool (gone N j)]) ∧ Rd w' s' (dg (N / 2 ^ j))) ∧ Below w.heap.size w w' := by
  subst hk; exact right_r s N j w hs hx hj
theorem Rd.one {w : World} {g : Nat} {a : Nat} (ha : a < 4294967296) (hg : g < w.heap.size) (c0 : w.cell? ⟨g, 0, none⟩ = some (.int .u32 (a : Int))) : Rd w (.slice (some ⟨g, 0, none⟩) 1 1) [a] := by
  refine ⟨fun d hd => ?_, .inr ⟨g, 0, 1, rfl, by simp, by simp, hg, fun i hi => ?_⟩⟩
  · simp at hd; rw [hd]; exact ha
  · rcases i with _ | i
    · exact c0
    · exact absurd hi (by simp)
end Go.Proofs.YtilginoibhfeiaaGreat
