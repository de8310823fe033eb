/- The walks of package wide's Of, Neg, Add, Sub. -/
import Derived.Test.YtfohihjeemmedaaW3
namespace Go.Proofs.Ytfohihjeemmedaa
open Go.RowKit

theorem WI.cells_of_over : WI.over.cells = cellsI false true 0 := rfl
theorem WI.add_over (x y : WI) (h : x.ov = true ∨ y.ov = true) : x.add y = WI.over := by
  unfold WI.add; unfold WI.ov at h
  cases hx : x.v <;> cases hy : y.v <;> simp_all
theorem WI.some_of_ov {x : WI} (h : x.ov = false) : x.v = some (sgn x.ng x.sz) := by
  unfold WI.ov at h; unfold WI.ng WI.sz sgn
  cases hx : x.v with
  | none => rw [hx] at h; cases h
  | some z => simp; by_cases hz : z < 0 <;> simp [hz] <;> omega
theorem WI.add_some {x y : WI} (hx : x.ov = false) (hy : y.ov = false) : x.add y = WI.of (sgn x.ng x.sz + sgn y.ng y.sz) := by
  unfold WI.add; rw [WI.some_of_ov hx, WI.some_of_ov hy]
theorem sgn_add_same (n : Bool) (N M : Nat) : sgn n N + sgn n M = sgn n (N + M) := by unfold sgn; cases n <;> simp <;> omega
theorem sgn_add_ge (n m : Bool) (N M : Nat) (h : n ≠ m) (hle : M ≤ N) : sgn n N + sgn m M = sgn n (N - M) := by
  unfold sgn; cases n <;> cases m <;> simp at h ⊢ <;> omega
theorem sgn_add_lt (n m : Bool) (N M : Nat) (h : n ≠ m) (hlt : N < M) : sgn n N + sgn m M = sgn m (M - N) := by
  unfold sgn; cases n <;> cases m <;> simp at h ⊢ <;> omega

theorem W16_two : lim + lim ≤ W16 := by
  have h3 : ∀ n m, n = m + 1 → (2 : Nat) ^ m + 2 ^ m = 2 ^ n := fun n m h => by subst h; rw [Nat.pow_succ]; omega
  have h4 : ∀ m k, m = 1023 → k = 16 → lim + lim = W16 := fun m k hm hk => by
    rw [lim_eq m hm, W16_eq k hk, h3 (64 * k) m (by omega)]
  exact Nat.le_of_eq (h4 1023 16 rfl rfl)
theorem carr_small {N M : Nat} (h : N + M < W16) : carr N M 16 = 0 := by
  unfold carr
  have e : ∀ k, k = 16 → N % 2 ^ (64 * k) + M % 2 ^ (64 * k) < 2 ^ (64 * k) := fun k hk => by
    have := W16_lt h hk
    rw [Nat.mod_eq_of_lt (by omega), Nat.mod_eq_of_lt (by omega)]; exact this
  have := Nat.div_eq_of_lt (e 16 rfl)
  rw [this]; rfl

theorem row_one (N : Nat) (h : N < 18446744073709551616) : (rowW 16 0).setIfInBounds 0 (.int .u64 (N : Int)) = rowW 16 N := by
  rw [rowW_set 16 0 0 N h]
  congr 1
  unfold setw; simp [wdn_zero]
theorem small_lim {N : Nat} (h : N < 18446744073709551616) : N < lim := Nat.lt_of_lt_of_le h (by
  have : ∀ n, 64 ≤ n → 18446744073709551616 ≤ 2 ^ n := fun n hn => pow2_le 64 n hn
  unfold lim; exact this 1023 (by decide))
theorem bl_small {N : Nat} (h : N < 18446744073709551616) : bl N ≤ 1023 := (lim_bl N).2 (small_lim h)

set_option maxRecDepth 100000 in
set_option maxHeartbeats 400000 in
theorem of_pos (N : Nat) (h : N ≤ 9223372036854775807) (w : World) :
    Calls Try.prog 51 #[.int .i64 (N : Int)] w fun e w' => e = .returned (.agg (WI.of (N : Int)).cells) ∧ Below w.heap.size w w' := by
  have E := Lib.hid (WI.of_sgn (n := false) (bl_small (N := N) (by omega)))
  have hu : IntKind.u64.wrap (N : Int) = N := by rw [IntKind.wrap_u64]; omega
  have hs := row_one N (by omega)
  have hz : ¬ (N : Int) < 0 := by omega
  clear h
  go_enter Try.func51, Try.ntmps51
  go_wp2
  exact bodyPost_row 18 (cellsI false false N) rfl rfl rfl Try.underlying68 rfl info_Int (by go_simp) ⟨by have := E.out; simp only [sgn] at this; rw [show (WI.of (N : Int)).cells = _ from this]; rfl, (Below.refl _ _).alloc (Nat.le_refl _) _⟩

set_option maxRecDepth 100000 in
set_option maxHeartbeats 400000 in
theorem of_neg (N : Nat) (h0 : 0 < N) (h : N ≤ 9223372036854775808) (w : World) :
    Calls Try.prog 51 #[.int .i64 (-(N : Int))] w fun e w' => e = .returned (.agg (WI.of (-(N : Int))).cells) ∧ Below w.heap.size w w' := by
  have E := Lib.hid (WI.of_sgn (n := true) (bl_small (N := N) (by omega)))
  have hu : IntKind.u64.wrap (-IntKind.u64.wrap (-(N : Int))) = N := by rw [IntKind.wrap_u64, IntKind.wrap_u64]; omega
  have hs := row_one N (by omega)
  have hz : -(N : Int) < 0 := by omega
  have H0 := Lib.hid h0
  clear h h0
  go_enter Try.func51, Try.ntmps51
  go_wp2
  exact bodyPost_row 18 (cellsI true false N) rfl rfl rfl Try.underlying68 rfl info_Int (by go_simp) ⟨by have := E.out; simp only [sgn, if_true] at this; rw [this, show (true && decide (N ≠ 0)) = true by have := H0.out; simp; omega], (Below.refl _ _).alloc (Nat.le_refl _) _⟩

/-- Of. -/
theorem of_c (z : Int) (h1 : -9223372036854775808 ≤ z) (h2 : z ≤ 9223372036854775807) (w : World) :
    Calls Try.prog 51 #[.int .i64 z] w fun e w' => e = .returned (.agg (WI.of z).cells) ∧ Below w.heap.size w w' := by
  by_cases hz : z < 0
  · obtain ⟨N, rfl⟩ : ∃ N : Nat, z = -(N : Int) := ⟨z.natAbs, by omega⟩
    exact of_neg N (by omega) (by omega) w
  · obtain ⟨N, rfl⟩ : ∃ N : Nat, z = (N : Int) := ⟨z.natAbs, by omega⟩
    exact of_pos N (by omega) w

set_option maxRecDepth 100000 in
set_option maxHeartbeats 1000000 in
theorem add_over (x y : WI) (h : x.ov = true ∨ y.ov = true) (w : World) :
    Calls Try.prog 68 #[.agg x.cells, .agg y.cells] w fun e w' => e = .returned (.agg (x.add y).cells) ∧ Below w.heap.size w w' := by
  rw [WI.add_over x y h]
  cases hx : x.ov with
  | true =>
    clear h
    go_enter Try.func68, Try.ntmps68
    go_wp2_with fail
    refine (tooGreat_c _).mono ?_; rintro e w1 ⟨rfl, hb1⟩; have z_w1 := hb1.size; (try simp at z_w1); obtain ⟨y_w1_0_0, c_w1_0_0, f_w1_0_0, r_w1_0_0, t_w1_0_0, p_w1_0_0⟩ := bk hb1 (w.heap.size) (by first | omega | (simp; done) | (simp; omega) | fail); obtain ⟨y_w1_0_1, c_w1_0_1, f_w1_0_1, r_w1_0_1, t_w1_0_1, p_w1_0_1⟩ := bk hb1 (w.heap.size + 1) (by first | omega | (simp; done) | (simp; omega) | fail); obtain ⟨y_w1_0_2, c_w1_0_2, f_w1_0_2, r_w1_0_2, t_w1_0_2, p_w1_0_2⟩ := bk hb1 (w.heap.size + 1 + 1) (by first | omega | (simp; done) | (simp; omega) | fail)
    go_wp2
    exact bodyPost_row 18 (cellsI false true 0) rfl rfl rfl Try.underlying68 rfl info_Int (by go_simp) ⟨rfl, (by repeat (first | exact Below.refl _ _ | exact Below_of_hid (by assumption) | refine Below.drew ?_ | refine below_drewN ?_ _ | refine Below_putRow ?_ (by first | omega | (simp; done) | (simp; omega) | fail) _ _ | refine Below.alloc ?_ (by first | omega | (simp; done) | (simp; omega) | fail) _ | refine Below.setCell ?_ (by first | omega | (simp; done) | (simp; omega) | fail) _ | refine Below.trans ?_ (Below.mono (by assumption) (by first | omega | (simp; done) | (simp; omega) | fail))))⟩
  | false =>
    have hy : y.ov = true := by rcases h with h | h <;> simp_all
    clear h
    go_enter Try.func68, Try.ntmps68
    go_wp2_with fail
    refine (tooGreat_c _).mono ?_; rintro e w1 ⟨rfl, hb1⟩; have z_w1 := hb1.size; (try simp at z_w1); obtain ⟨y_w1_0_0, c_w1_0_0, f_w1_0_0, r_w1_0_0, t_w1_0_0, p_w1_0_0⟩ := bk hb1 (w.heap.size) (by first | omega | (simp; done) | (simp; omega) | fail); obtain ⟨y_w1_0_1, c_w1_0_1, f_w1_0_1, r_w1_0_1, t_w1_0_1, p_w1_0_1⟩ := bk hb1 (w.heap.size + 1) (by first | omega | (simp; done) | (simp; omega) | fail); obtain ⟨y_w1_0_2, c_w1_0_2, f_w1_0_2, r_w1_0_2, t_w1_0_2, p_w1_0_2⟩ := bk hb1 (w.heap.size + 1 + 1) (by first | omega | (simp; done) | (simp; omega) | fail)
    go_wp2
    exact bodyPost_row 18 (cellsI false true 0) rfl rfl rfl Try.underlying68 rfl info_Int (by go_simp) ⟨rfl, (by repeat (first | exact Below.refl _ _ | exact Below_of_hid (by assumption) | refine Below.drew ?_ | refine below_drewN ?_ _ | refine Below_putRow ?_ (by first | omega | (simp; done) | (simp; omega) | fail) _ _ | refine Below.alloc ?_ (by first | omega | (simp; done) | (simp; omega) | fail) _ | refine Below.setCell ?_ (by first | omega | (simp; done) | (simp; omega) | fail) _ | refine Below.trans ?_ (Below.mono (by assumption) (by first | omega | (simp; done) | (simp; omega) | fail))))⟩

set_option maxRecDepth 100000 in
set_option maxHeartbeats 1000000 in
theorem add_same (x y : WI) (hx : x.ov = false) (hy : y.ov = false) (hn : y.ng = x.ng) (w : World) :
    Calls Try.prog 68 #[.agg x.cells, .agg y.cells] w fun e w' => e = .returned (.agg (x.add y).cells) ∧ Below w.heap.size w w' := by
  have hlt : x.sz + y.sz < W16 := by have := x.sz_lt; have := y.sz_lt; have := W16_two; omega
  rw [WI.add_some hx hy, hn, sgn_add_same]
  have hc := carr_small hlt
  have HLT := Lib.hid hlt
  clear hlt
  go_enter Try.func68, Try.ntmps68
  go_wp2_with fail
  refine (add_c _ _ _ _ x.sz y.sz _ (.of_wi (((Blk.new _ _ _).alloc _).alloc _)) (.of_wi ((Blk.new' _ _ _ (by simp)).alloc _))).mono ?_; rintro e w1 ⟨rfl, hb1⟩; rw [hc]; have z_w1 := hb1.size; (try simp at z_w1); obtain ⟨y_w1_0_0, c_w1_0_0, f_w1_0_0, r_w1_0_0, t_w1_0_0, p_w1_0_0⟩ := bk hb1 (w.heap.size) (by first | omega | (simp; done) | (simp; omega) | fail); obtain ⟨y_w1_0_1, c_w1_0_1, f_w1_0_1, r_w1_0_1, t_w1_0_1, p_w1_0_1⟩ := bk hb1 (w.heap.size + 1) (by first | omega | (simp; done) | (simp; omega) | fail); obtain ⟨y_w1_0_2, c_w1_0_2, f_w1_0_2, r_w1_0_2, t_w1_0_2, p_w1_0_2⟩ := bk hb1 (w.heap.size + 1 + 1) (by first | omega | (simp; done) | (simp; omega) | fail)
  go_wp2_with fail
  refine (made_c _ _ HLT.out _).mono ?_; rintro e w2 ⟨rfl, hb2⟩; have z_w2 := hb2.size; (try simp at z_w2); obtain ⟨y_w2_0_0, c_w2_0_0, f_w2_0_0, r_w2_0_0, t_w2_0_0, p_w2_0_0⟩ := bk hb2 (w.heap.size) (by first | omega | (simp; done) | (simp; omega) | fail); obtain ⟨y_w2_0_1, c_w2_0_1, f_w2_0_1, r_w2_0_1, t_w2_0_1, p_w2_0_1⟩ := bk hb2 (w.heap.size + 1) (by first | omega | (simp; done) | (simp; omega) | fail); obtain ⟨y_w2_0_2, c_w2_0_2, f_w2_0_2, r_w2_0_2, t_w2_0_2, p_w2_0_2⟩ := bk hb2 (w.heap.size + 1 + 1) (by first | omega | (simp; done) | (simp; omega) | fail); obtain ⟨y_w2_1_0, c_w2_1_0, f_w2_1_0, r_w2_1_0, t_w2_1_0, p_w2_1_0⟩ := bk hb2 (w1.heap.size) (by first | omega | (simp; done) | (simp; omega) | fail)
  go_wp2
  exact bodyPost_row 18 (WI.of (sgn x.ng (x.sz + y.sz))).cells rfl rfl rfl Try.underlying68 rfl info_Int (by go_simp) ⟨rfl, (by repeat (first | exact Below.refl _ _ | exact Below_of_hid (by assumption) | refine Below.drew ?_ | refine below_drewN ?_ _ | refine Below_putRow ?_ (by first | omega | (simp; done) | (simp; omega) | fail) _ _ | refine Below.alloc ?_ (by first | omega | (simp; done) | (simp; omega) | fail) _ | refine Below.setCell ?_ (by first | omega | (simp; done) | (simp; omega) | fail) _ | refine Below.trans ?_ (Below.mono (by assumption) (by first | omega | (simp; done) | (simp; omega) | fail))))⟩

set_option maxRecDepth 100000 in
set_option maxHeartbeats 1000000 in
theorem add_ge (x y : WI) (hx : x.ov = false) (hy : y.ov = false) (hn : y.ng ≠ x.ng) (hle : y.sz ≤ x.sz) (w : World) :
    Calls Try.prog 68 #[.agg x.cells, .agg y.cells] w fun e w' => e = .returned (.agg (x.add y).cells) ∧ Below w.heap.size w w' := by
  have hlt : x.sz - y.sz < W16 := by have := x.sz_lt'; omega
  have hcmp : (0 : Int) ≤ cmpN x.sz y.sz := by unfold cmpN; split <;> (try split) <;> omega
  rw [WI.add_some hx hy, sgn_add_ge _ _ _ _ (Ne.symm hn) hle]
  have HLT := Lib.hid hlt
  have HLE := Lib.hid hle
  have hne : (x.ng == y.ng) = false := by rw [beq_eq_false_iff_ne]; exact Ne.symm hn
  clear hlt hle hn
  go_enter Try.func68, Try.ntmps68
  go_wp2_with fail
  refine (cmp_c _ _ _ _ x.sz y.sz _ x.sz_lt' y.sz_lt' (.of_wi (((Blk.new _ _ _).alloc _).alloc _)) (.of_wi ((Blk.new' _ _ _ (by simp)).alloc _))).mono ?_; rintro e w1 ⟨rfl, hb1⟩; have z_w1 := hb1.size; (try simp at z_w1); obtain ⟨y_w1_0_0, c_w1_0_0, f_w1_0_0, r_w1_0_0, t_w1_0_0, p_w1_0_0⟩ := bk hb1 (w.heap.size) (by first | omega | (simp; done) | (simp; omega) | fail); obtain ⟨y_w1_0_1, c_w1_0_1, f_w1_0_1, r_w1_0_1, t_w1_0_1, p_w1_0_1⟩ := bk hb1 (w.heap.size + 1) (by first | omega | (simp; done) | (simp; omega) | fail); obtain ⟨y_w1_0_2, c_w1_0_2, f_w1_0_2, r_w1_0_2, t_w1_0_2, p_w1_0_2⟩ := bk hb1 (w.heap.size + 1 + 1) (by first | omega | (simp; done) | (simp; omega) | fail)
  go_wp2_with fail
  go_region_held3 (fun w' => w'.cell? ⟨w.heap.size, 0, none⟩ = some (.bool x.ng)) (go_simp)
    (first
      | (go_at_call 89; refine (sub_c _ _ _ _ x.sz y.sz HLE.out _ (.of_wi (Blk.keep (((Blk.new w _ _).alloc _).alloc _) hb1).drew) (.of_wi (Blk.keep ((Blk.new' _ _ _ (by simp)).alloc _) hb1).drew)).mono ?_; rintro e w2 ⟨rfl, hb2⟩; have z_w2 := hb2.size; (try simp at z_w2); obtain ⟨y_w2_0_0, c_w2_0_0, f_w2_0_0, r_w2_0_0, t_w2_0_0, p_w2_0_0⟩ := bk hb2 (w.heap.size) (by first | omega | (simp; done) | (simp; omega) | fail); obtain ⟨y_w2_0_1, c_w2_0_1, f_w2_0_1, r_w2_0_1, t_w2_0_1, p_w2_0_1⟩ := bk hb2 (w.heap.size + 1) (by first | omega | (simp; done) | (simp; omega) | fail); obtain ⟨y_w2_0_2, c_w2_0_2, f_w2_0_2, r_w2_0_2, t_w2_0_2, p_w2_0_2⟩ := bk hb2 (w.heap.size + 1 + 1) (by first | omega | (simp; done) | (simp; omega) | fail))
      | (go_at_call 86; refine (made_c _ _ HLT.out _).mono ?_; rintro e w3 ⟨rfl, hb3⟩; have z_w3 := hb3.size; (try simp at z_w3); obtain ⟨y_w3_0_0, c_w3_0_0, f_w3_0_0, r_w3_0_0, t_w3_0_0, p_w3_0_0⟩ := bk hb3 (w.heap.size) (by first | omega | (simp; done) | (simp; omega) | fail); obtain ⟨y_w3_0_1, c_w3_0_1, f_w3_0_1, r_w3_0_1, t_w3_0_1, p_w3_0_1⟩ := bk hb3 (w.heap.size + 1) (by first | omega | (simp; done) | (simp; omega) | fail); obtain ⟨y_w3_0_2, c_w3_0_2, f_w3_0_2, r_w3_0_2, t_w3_0_2, p_w3_0_2⟩ := bk hb3 (w.heap.size + 1 + 1) (by first | omega | (simp; done) | (simp; omega) | fail)))
  go_wp2
  exact bodyPost_row 18 (WI.of (sgn x.ng (x.sz - y.sz))).cells rfl rfl rfl Try.underlying68 rfl info_Int (by go_simp) ⟨rfl, (by repeat (first | exact Below.refl _ _ | exact Below_of_hid (by assumption) | refine Below.drew ?_ | refine below_drewN ?_ _ | refine Below_putRow ?_ (by first | omega | (simp; done) | (simp; omega) | fail) _ _ | refine Below.alloc ?_ (by first | omega | (simp; done) | (simp; omega) | fail) _ | refine Below.setCell ?_ (by first | omega | (simp; done) | (simp; omega) | fail) _ | refine Below.trans ?_ (Below.mono (by assumption) (by first | omega | (simp; done) | (simp; omega) | fail))))⟩
set_option maxRecDepth 100000 in
set_option maxHeartbeats 1000000 in
theorem add_lt (x y : WI) (hx : x.ov = false) (hy : y.ov = false) (hn : y.ng ≠ x.ng) (hlt0 : x.sz < y.sz) (w : World) :
    Calls Try.prog 68 #[.agg x.cells, .agg y.cells] w fun e w' => e = .returned (.agg (x.add y).cells) ∧ Below w.heap.size w w' := by
  have hlt : y.sz - x.sz < W16 := by have := y.sz_lt'; omega
  have hle : x.sz ≤ y.sz := by omega
  have hcmp : cmpN x.sz y.sz < (0 : Int) := by unfold cmpN; split <;> (try split) <;> omega
  rw [WI.add_some hx hy, sgn_add_lt _ _ _ _ (Ne.symm hn) hlt0]
  have HLT := Lib.hid hlt
  have HLE := Lib.hid hle
  have hne : (x.ng == y.ng) = false := by rw [beq_eq_false_iff_ne]; exact Ne.symm hn
  clear hlt hle hn hlt0
  go_enter Try.func68, Try.ntmps68
  go_wp2_with fail
  refine (cmp_c _ _ _ _ x.sz y.sz _ x.sz_lt' y.sz_lt' (.of_wi (((Blk.new _ _ _).alloc _).alloc _)) (.of_wi ((Blk.new' _ _ _ (by simp)).alloc _))).mono ?_; rintro e w1 ⟨rfl, hb1⟩; have z_w1 := hb1.size; (try simp at z_w1); obtain ⟨y_w1_0_0, c_w1_0_0, f_w1_0_0, r_w1_0_0, t_w1_0_0, p_w1_0_0⟩ := bk hb1 (w.heap.size) (by first | omega | (simp; done) | (simp; omega) | fail); obtain ⟨y_w1_0_1, c_w1_0_1, f_w1_0_1, r_w1_0_1, t_w1_0_1, p_w1_0_1⟩ := bk hb1 (w.heap.size + 1) (by first | omega | (simp; done) | (simp; omega) | fail); obtain ⟨y_w1_0_2, c_w1_0_2, f_w1_0_2, r_w1_0_2, t_w1_0_2, p_w1_0_2⟩ := bk hb1 (w.heap.size + 1 + 1) (by first | omega | (simp; done) | (simp; omega) | fail)
  go_wp2_with fail
  go_region_held3 (fun w' => w'.cell? ⟨w.heap.size + 1, 0, none⟩ = some (.bool y.ng)) (go_simp)
    (first
      | (go_at_call 89; refine (sub_c _ _ _ _ y.sz x.sz HLE.out _ (.of_wi (Blk.keep ((Blk.new' _ _ _ (by simp)).alloc _) hb1).drew) (.of_wi (Blk.keep (((Blk.new w _ _).alloc _).alloc _) hb1).drew)).mono ?_; rintro e w2 ⟨rfl, hb2⟩; have z_w2 := hb2.size; (try simp at z_w2); obtain ⟨y_w2_0_0, c_w2_0_0, f_w2_0_0, r_w2_0_0, t_w2_0_0, p_w2_0_0⟩ := bk hb2 (w.heap.size) (by first | omega | (simp; done) | (simp; omega) | fail); obtain ⟨y_w2_0_1, c_w2_0_1, f_w2_0_1, r_w2_0_1, t_w2_0_1, p_w2_0_1⟩ := bk hb2 (w.heap.size + 1) (by first | omega | (simp; done) | (simp; omega) | fail); obtain ⟨y_w2_0_2, c_w2_0_2, f_w2_0_2, r_w2_0_2, t_w2_0_2, p_w2_0_2⟩ := bk hb2 (w.heap.size + 1 + 1) (by first | omega | (simp; done) | (simp; omega) | fail))
      | (go_at_call 86; refine (made_c _ _ HLT.out _).mono ?_; rintro e w3 ⟨rfl, hb3⟩; have z_w3 := hb3.size; (try simp at z_w3); obtain ⟨y_w3_0_0, c_w3_0_0, f_w3_0_0, r_w3_0_0, t_w3_0_0, p_w3_0_0⟩ := bk hb3 (w.heap.size) (by first | omega | (simp; done) | (simp; omega) | fail); obtain ⟨y_w3_0_1, c_w3_0_1, f_w3_0_1, r_w3_0_1, t_w3_0_1, p_w3_0_1⟩ := bk hb3 (w.heap.size + 1) (by first | omega | (simp; done) | (simp; omega) | fail); obtain ⟨y_w3_0_2, c_w3_0_2, f_w3_0_2, r_w3_0_2, t_w3_0_2, p_w3_0_2⟩ := bk hb3 (w.heap.size + 1 + 1) (by first | omega | (simp; done) | (simp; omega) | fail)))
  go_wp2
  exact bodyPost_row 18 (WI.of (sgn y.ng (y.sz - x.sz))).cells rfl rfl rfl Try.underlying68 rfl info_Int (by go_simp) ⟨rfl, (by repeat (first | exact Below.refl _ _ | exact Below_of_hid (by assumption) | refine Below.drew ?_ | refine below_drewN ?_ _ | refine Below_putRow ?_ (by first | omega | (simp; done) | (simp; omega) | fail) _ _ | refine Below.alloc ?_ (by first | omega | (simp; done) | (simp; omega) | fail) _ | refine Below.setCell ?_ (by first | omega | (simp; done) | (simp; omega) | fail) _ | refine Below.trans ?_ (Below.mono (by assumption) (by first | omega | (simp; done) | (simp; omega) | fail))))⟩

/-- Add. -/
theorem add_I (x y : WI) (w : World) :
    Calls Try.prog 68 #[.agg x.cells, .agg y.cells] w fun e w' => e = .returned (.agg (x.add y).cells) ∧ Below w.heap.size w w' := by
  cases hx : x.ov with
  | true => exact add_over x y (.inl hx) w
  | false =>
    cases hy : y.ov with
    | true => exact add_over x y (.inr hy) w
    | false =>
      by_cases hn : y.ng = x.ng
      · exact add_same x y hx hy hn w
      · by_cases hle : y.sz ≤ x.sz
        · exact add_ge x y hx hy hn hle w
        · exact add_lt x y hx hy hn (by omega) w

theorem WI.neg_over (x : WI) (h : x.ov = true) : x.neg = x := by
  apply WI.ext'; unfold WI.neg; unfold WI.ov at h
  cases hx : x.v with
  | none => rfl
  | some z => rw [hx] at h; cases h
theorem WI.neg_some {x : WI} (hx : x.ov = false) : x.neg = WI.of (sgn (!x.ng) x.sz) := by
  unfold WI.neg; rw [WI.some_of_ov hx]
  simp only; congr 1
  cases x.ng <;> simp [sgn]

set_option maxRecDepth 100000 in
set_option maxHeartbeats 400000 in
/-- Neg. -/
theorem neg_I (x : WI) (w : World) :
    Calls Try.prog 69 #[.agg x.cells] w fun e w' => e = .returned (.agg x.neg.cells) ∧ Below w.heap.size w w' := by
  cases hx : x.ov with
  | true =>
    rw [WI.neg_over x hx]
    go_enter Try.func69, Try.ntmps69
    go_wp2_with fail
    exact bodyPost_row 18 x.cells rfl rfl rfl Try.underlying68 rfl info_Int (by go_simp) ⟨rfl, (by repeat (first | exact Below.refl _ _ | exact Below_of_hid (by assumption) | refine Below.drew ?_ | refine below_drewN ?_ _ | refine Below_putRow ?_ (by first | omega | (simp; done) | (simp; omega) | fail) _ _ | refine Below.alloc ?_ (by first | omega | (simp; done) | (simp; omega) | fail) _ | refine Below.setCell ?_ (by first | omega | (simp; done) | (simp; omega) | fail) _ | refine Below.trans ?_ (Below.mono (by assumption) (by first | omega | (simp; done) | (simp; omega) | fail))))⟩
  | false =>
    rw [WI.neg_some hx]
    have HLT := Lib.hid x.sz_lt'
    go_enter Try.func69, Try.ntmps69
    go_wp2_with fail
    refine (made_c _ _ HLT.out _).mono ?_; rintro e w1 ⟨rfl, hb1⟩; have z_w1 := hb1.size; (try simp at z_w1); obtain ⟨y_w1_0_0, c_w1_0_0, f_w1_0_0, r_w1_0_0, t_w1_0_0, p_w1_0_0⟩ := bk hb1 (w.heap.size) (by first | omega | (simp; done) | (simp; omega) | fail); obtain ⟨y_w1_0_1, c_w1_0_1, f_w1_0_1, r_w1_0_1, t_w1_0_1, p_w1_0_1⟩ := bk hb1 (w.heap.size + 1) (by first | omega | (simp; done) | (simp; omega) | fail)
    go_wp2
    exact bodyPost_row 18 (WI.of (sgn (!x.ng) x.sz)).cells rfl rfl rfl Try.underlying68 rfl info_Int (by go_simp) ⟨rfl, (by repeat (first | exact Below.refl _ _ | exact Below_of_hid (by assumption) | refine Below.drew ?_ | refine below_drewN ?_ _ | refine Below_putRow ?_ (by first | omega | (simp; done) | (simp; omega) | fail) _ _ | refine Below.alloc ?_ (by first | omega | (simp; done) | (simp; omega) | fail) _ | refine Below.setCell ?_ (by first | omega | (simp; done) | (simp; omega) | fail) _ | refine Below.trans ?_ (Below.mono (by assumption) (by first | omega | (simp; done) | (simp; omega) | fail))))⟩

set_option maxRecDepth 100000 in
set_option maxHeartbeats 400000 in
/-- Sub. -/
theorem sub_I (x y : WI) (w : World) :
    Calls Try.prog 53 #[.agg x.cells, .agg y.cells] w fun e w' => e = .returned (.agg (x.sub y).cells) ∧ Below w.heap.size w w' := by
  go_enter Try.func53, Try.ntmps53
  go_wp2_with fail
  go_region_held3 (fun w' => w'.row? w.heap.size 0 18 = some x.cells ∧ w'.row? (w.heap.size + 1) 0 18 = some y.cells) (go_simp)
    (first
      | (go_at_call 69; refine (neg_I _ _).mono ?_; rintro e w1 ⟨rfl, hb1⟩; have z_w1 := hb1.size; (try simp at z_w1); obtain ⟨y_w1_0_0, c_w1_0_0, f_w1_0_0, r_w1_0_0, t_w1_0_0, p_w1_0_0⟩ := bk hb1 (w.heap.size) (by first | omega | (simp; done) | (simp; omega) | fail); obtain ⟨y_w1_0_1, c_w1_0_1, f_w1_0_1, r_w1_0_1, t_w1_0_1, p_w1_0_1⟩ := bk hb1 (w.heap.size + 1) (by first | omega | (simp; done) | (simp; omega) | fail); obtain ⟨y_w1_0_2, c_w1_0_2, f_w1_0_2, r_w1_0_2, t_w1_0_2, p_w1_0_2⟩ := bk hb1 (w.heap.size + 1 + 1) (by first | omega | (simp; done) | (simp; omega) | fail))
      | (go_at_call 68; refine (add_I _ _ _).mono ?_; rintro e w2 ⟨rfl, hb2⟩; have z_w2 := hb2.size; (try simp at z_w2); obtain ⟨y_w2_0_0, c_w2_0_0, f_w2_0_0, r_w2_0_0, t_w2_0_0, p_w2_0_0⟩ := bk hb2 (w.heap.size) (by first | omega | (simp; done) | (simp; omega) | fail); obtain ⟨y_w2_0_1, c_w2_0_1, f_w2_0_1, r_w2_0_1, t_w2_0_1, p_w2_0_1⟩ := bk hb2 (w.heap.size + 1) (by first | omega | (simp; done) | (simp; omega) | fail); obtain ⟨y_w2_0_2, c_w2_0_2, f_w2_0_2, r_w2_0_2, t_w2_0_2, p_w2_0_2⟩ := bk hb2 (w.heap.size + 1 + 1) (by first | omega | (simp; done) | (simp; omega) | fail)))
  go_wp2
  exact bodyPost_row 18 (x.add y.neg).cells rfl rfl rfl Try.underlying68 rfl info_Int (by go_simp) ⟨rfl, (by repeat (first | exact Below.refl _ _ | exact Below_of_hid (by assumption) | refine Below.drew ?_ | refine below_drewN ?_ _ | refine Below_putRow ?_ (by first | omega | (simp; done) | (simp; omega) | fail) _ _ | refine Below.alloc ?_ (by first | omega | (simp; done) | (simp; omega) | fail) _ | refine Below.setCell ?_ (by first | omega | (simp; done) | (simp; omega) | fail) _ | refine Below.trans ?_ (Below.mono (by assumption) (by first | omega | (simp; done) | (simp; omega) | fail))))⟩

end Go.Proofs.Ytfohihjeemmedaa
