/- Shifts of wide numbers: the plain law. The walk of package wide's Shift. -/
import Derived.Test.YtnoidlacjiafdaaGreatBX
import Derived.Test.YtnoidlacjiafdaaGreatBY
namespace Go.Proofs.YtnoidlacjiafdaaGreat
set_option linter.unusedSimpArgs false
set_option linter.unusedVariables false
open Go.RowKit

/-- A number times a power of two, down. -/
def WI.shl (x : WI) (k : Int) : WI := match x.v with
  | none => WI.over
  | some z => if z = 0 then x else if 0 ≤ k then (if 1023 < k then WI.over else WI.of (z * ((2 ^ k.toNat : Nat) : Int))) else WI.of (z.fdiv ((2 ^ (-k).toNat : Nat) : Int))
theorem sgn_zero_iff (n : Bool) (N : Nat) : sgn n N = 0 ↔ N = 0 := by unfold sgn; split <;> omega
theorem WI.shl_still (x : WI) (k : Int) (h : x.ov = true ∨ x.sz = 0) : x.shl k = x := by
  unfold WI.shl
  cases hx : x.v with
  | none => exact WI.ext' (by rw [hx]; rfl)
  | some z =>
    have h0 : z = 0 := by
      rcases h with h | h
      · unfold WI.ov at h; rw [hx] at h; cases h
      · unfold WI.sz at h; rw [hx] at h; simp only at h; omega
    simp only [h0, if_true]
theorem WI.shl_over (x : WI) (k : Int) (h : x.ov = false) (h0 : x.sz ≠ 0) (hk : 1023 < k) : x.shl k = WI.over := by
  unfold WI.shl; rw [WI.some_of_ov h]
  have h1 : ¬ sgn x.ng x.sz = 0 := fun e => h0 ((sgn_zero_iff _ _).1 e)
  simp only [h1, if_false]
  rw [if_pos (by omega), if_pos hk]
theorem WI.shl_up (x : WI) (k : Nat) (h : x.ov = false) (h0 : x.sz ≠ 0) (hk : k ≤ 1023) : x.shl (k : Int) = WI.of (sgn x.ng (x.sz * 2 ^ k)) := by
  unfold WI.shl; rw [WI.some_of_ov h]
  have h1 : ¬ sgn x.ng x.sz = 0 := fun e => h0 ((sgn_zero_iff _ _).1 e)
  simp only [h1, if_false]
  rw [if_pos (by omega), if_neg (by omega), Int.toNat_natCast]
  congr 1
  unfold sgn
  cases x.ng
  · simp
  · simp [Int.neg_mul]
theorem bl_shift (N k : Nat) (h : N ≠ 0) : bl (N * 2 ^ k) = bl N + k := by
  have h1 := bl_lt N
  have h2 := bl_le_self N h
  have h3 := bl_pos N h
  refine bl_unique _ _ ?_ (.inr ?_)
  · rw [Nat.pow_add]; exact Nat.mul_lt_mul_of_pos_right h1 (Nat.two_pow_pos k)
  · rw [show bl N + k - 1 = (bl N - 1) + k by omega, Nat.pow_add]; exact Nat.mul_le_mul_right _ h2
theorem WI.shl_big (x : WI) (k : Int) (h : x.ov = false) (h0 : x.sz ≠ 0) (hk0 : 0 ≤ k) (hk : 1023 - (bl x.sz : Int) < k) : x.shl k = WI.over := by
  rcases Int.lt_or_le 1023 k with h1 | h1
  · exact WI.shl_over x k h h0 h1
  · obtain ⟨j, rfl⟩ : ∃ j : Nat, k = j := ⟨k.toNat, by omega⟩
    rw [WI.shl_up x j h h0 (by omega)]
    refine WI.of_over ?_
    rw [sgn_abs, ← lim_bl, bl_shift _ _ h0]
    omega
theorem far_down (x : WI) (j : Nat) (h : 1023 ≤ j) : x.sz < 2 ^ j := Nat.lt_of_lt_of_le x.sz_lt (lim_le_pow j h)
theorem WI.shl_down (x : WI) (k : Int) (j : Nat) (h : x.ov = false) (h0 : x.sz ≠ 0) (hk : k < 0) (hj : j = (-k).toNat ∨ (1023 ≤ j ∧ 1023 ≤ (-k).toNat)) :
    x.shl k = WI.of (sgn x.ng (if x.ng && lost x.sz j then x.sz / 2 ^ j + 1 else x.sz / 2 ^ j)) := by
  have e : x.sz / 2 ^ (-k).toNat = x.sz / 2 ^ j ∧ x.sz % 2 ^ (-k).toNat = x.sz % 2 ^ j := by
    rcases hj with rfl | ⟨h1, h2⟩
    · exact ⟨rfl, rfl⟩
    · have a := far_down x _ h1
      have b := far_down x _ h2
      exact ⟨by rw [Nat.div_eq_of_lt a, Nat.div_eq_of_lt b], by rw [Nat.mod_eq_of_lt a, Nat.mod_eq_of_lt b]⟩
  unfold WI.shl; rw [WI.some_of_ov h]
  have h1 : ¬ sgn x.ng x.sz = 0 := fun e => h0 ((sgn_zero_iff _ _).1 e)
  simp only [h1, if_false]
  rw [if_neg (by omega)]
  have h2 := sgn_fdiv x.ng false x.sz (2 ^ (-k).toNat) (Nat.ne_of_gt (Nat.two_pow_pos _))
  rw [show sgn false (2 ^ (-k).toNat) = ((2 ^ (-k).toNat : Nat) : Int) from rfl] at h2
  rw [h2, e.1, e.2]
  unfold lost
  simp
end Go.Proofs.YtnoidlacjiafdaaGreat
namespace Go.Proofs.YtnoidlacjiafdaaGreat
open Go.RowKit

theorem lim_le_lt {N : Nat} (h : bl N ≤ 1023) : N < W16 := Nat.lt_of_lt_of_le ((lim_bl N).1 h) lim_le
set_option maxRecDepth 100000 in
set_option maxHeartbeats 1000000 in
theorem shift_still (x : WI) (k : Int) (w : World) (h : x.ov = true ∨ x.sz = 0) :
    Calls Tryz.prog 44 #[.agg x.cells, .int .i64 k] w fun e w' => e = .returned (.agg (x.shl k).cells) ∧ Below w.heap.size w w' := by
  rw [WI.shl_still x k h]
  have HLT := Lib.hid x.sz_lt'
  cases hx : x.ov with
  | true =>
    go_enter Tryz.func44, Tryz.ntmps44
    go_wp2_with fail
    refine (bits_c _ _ x.sz _ HLT.out (.of_wi ((Blk.new _ _ _).alloc _))).mono ?_; rintro e w1 ⟨rfl, rfl⟩
    go_wp2_with fail
    exact bodyPost_row 18 x.cells rfl rfl rfl Tryz.underlying47 rfl info_Int (by go_simp) ⟨rfl, below_by⟩
  | false =>
    have h0 : x.sz = 0 := by rcases h with h | h; rw [hx] at h; cases h; exact h
    have hb : Hid (bl x.sz = 0) := by rw [h0]; exact bl_zero
    clear h h0
    go_enter Tryz.func44, Tryz.ntmps44
    go_wp2_with fail
    refine (bits_c _ _ x.sz _ HLT.out (.of_wi ((Blk.new _ _ _).alloc _))).mono ?_; rintro e w1 ⟨rfl, rfl⟩
    rw [hb.out]
    go_wp2_with fail
    exact bodyPost_row 18 x.cells rfl rfl rfl Tryz.underlying47 rfl info_Int (by go_simp) ⟨rfl, below_by⟩
set_option maxRecDepth 100000 in
set_option maxHeartbeats 1000000 in
theorem shift_up (x : WI) (k : Int) (w : World) (hx : x.ov = false) (h0 : x.sz ≠ 0) (hk : 0 ≤ k) :
    Calls Tryz.prog 44 #[.agg x.cells, .int .i64 k] w fun e w' => e = .returned (.agg (x.shl k).cells) ∧ Below w.heap.size w w' := by
  have HLT := Lib.hid x.sz_lt'
  have hbp := bl_pos _ h0
  have hbl : bl x.sz ≤ 1023 := (lim_bl _).2 x.sz_lt
  obtain ⟨n, hn⟩ : ∃ n, bl x.sz = n := ⟨_, rfl⟩
  by_cases hbig : 1023 - (bl x.sz : Int) < k
  · rw [WI.shl_big x k hx h0 hk hbig]
    rw [hn] at hbp hbl hbig
    have HN := Lib.hid hn
    have b0 : ¬ (n : Int) = 0 := by omega
    clear hn h0
    go_enter Tryz.func44, Tryz.ntmps44
    go_wp2_with fail
    refine (bits_c _ _ x.sz _ HLT.out (.of_wi ((Blk.new _ _ _).alloc _))).mono ?_; rintro e w1 ⟨rfl, rfl⟩
    rw [HN.out]
    go_wp2_with fail
    refine (tooGreat_c _).mono ?_; rintro e w2 ⟨rfl, hb2⟩; have z_w2 := hb2.size; (try simp at z_w2); obtain ⟨y_w2_0_0, c_w2_0_0, f_w2_0_0, r_w2_0_0, t_w2_0_0, p_w2_0_0⟩ := bq hb2 (w.heap.size); obtain ⟨y_w2_0_1, c_w2_0_1, f_w2_0_1, r_w2_0_1, t_w2_0_1, p_w2_0_1⟩ := bq hb2 (w.heap.size + 1)
    go_wp2_with fail
    exact bodyPost_row 18 (cellsI false true 0) rfl rfl rfl Tryz.underlying47 rfl info_Int (by go_simp) ⟨rfl, below_by⟩
  · obtain ⟨j, rfl⟩ : ∃ j : Nat, k = j := ⟨k.toNat, by omega⟩
    rw [WI.shl_up x j hx h0 (by omega)]
    have HM : Hid (x.sz * 2 ^ j < W16) := lim_le_lt (by rw [bl_shift _ _ h0]; omega)
    rw [hn] at hbp hbl hbig
    have HN := Lib.hid hn
    have b0 : ¬ (n : Int) = 0 := by omega
    have HJ : Hid (j < 1024) := by show j < 1024; omega
    clear hn h0
    go_enter Tryz.func44, Tryz.ntmps44
    go_wp2_with fail
    refine (bits_c _ _ x.sz _ HLT.out (.of_wi ((Blk.new _ _ _).alloc _))).mono ?_; rintro e w1 ⟨rfl, hw1⟩
    subst hw1
    rw [HN.out]
    go_wp2_with fail
    go_region_held3 (fun w' => w'.cell? ⟨w.heap.size, 0, none⟩ = some (.bool x.ng)) (go_simp)
      (first
        | (go_at_call 107; refine (up_c _ _ x.sz j _ HJ.out (.of_wi (((Blk.new _ _ _).alloc _).drew))).mono ?_; rintro e w2 ⟨rfl, hb2⟩; have z_w2 := hb2.size; (try simp at z_w2); obtain ⟨y_w2_0_0, c_w2_0_0, f_w2_0_0, r_w2_0_0, t_w2_0_0, p_w2_0_0⟩ := bq hb2 (w.heap.size); obtain ⟨y_w2_0_1, c_w2_0_1, f_w2_0_1, r_w2_0_1, t_w2_0_1, p_w2_0_1⟩ := bq hb2 (w.heap.size + 1))
        | (go_at_call 97; refine (made_c _ _ HM.out _).mono ?_; rintro e w3 ⟨rfl, hb3⟩; have z_w3 := hb3.size; (try simp at z_w3); obtain ⟨y_w3_0_0, c_w3_0_0, f_w3_0_0, r_w3_0_0, t_w3_0_0, p_w3_0_0⟩ := bq hb3 (w.heap.size); obtain ⟨y_w3_0_1, c_w3_0_1, f_w3_0_1, r_w3_0_1, t_w3_0_1, p_w3_0_1⟩ := bq hb3 (w.heap.size + 1)))
    go_wp2
    exact bodyPost_row 18 (WI.of (sgn x.ng (x.sz * 2 ^ j))).cells rfl rfl rfl Tryz.underlying47 rfl info_Int (by go_simp) ⟨rfl, below_by⟩
set_option maxRecDepth 100000 in
set_option maxHeartbeats 1000000 in
theorem shift_down (x : WI) (k : Int) (w : World) (hx : x.ov = false) (h0 : x.sz ≠ 0) (hk : k < 0) (hk2 : -9223372036854775808 ≤ k) :
    Calls Tryz.prog 44 #[.agg x.cells, .int .i64 k] w fun e w' => e = .returned (.agg (x.shl k).cells) ∧ Below w.heap.size w w' := by
  have HLT := Lib.hid x.sz_lt'
  have hbp := bl_pos _ h0
  have hbl : bl x.sz ≤ 1023 := (lim_bl _).2 x.sz_lt
  obtain ⟨n, hn⟩ : ∃ n, bl x.sz = n := ⟨_, rfl⟩
  obtain ⟨j, hj⟩ : ∃ j : Nat, max k (-1024) = -(j : Int) := ⟨(-(max k (-1024))).toNat, by omega⟩
  have hj2 : j ≤ 1024 := by omega
  rw [WI.shl_down x k j hx h0 hk (by omega)]
  rw [hn] at hbp hbl
  have HN := Lib.hid hn
  have b0 : ¬ (n : Int) = 0 := by omega
  have HJ := Lib.hid hj2
  have k0 : ¬ (0 : Int) ≤ k := by omega
  have hj3 : IntKind.i64.wrap (- -(j : Int)) = (j : Int) := by rw [IntKind.wrap_i64]; omega
  have HD : Hid (x.sz / 2 ^ j < W16) := Nat.lt_of_le_of_lt (Nat.div_le_self _ _) x.sz_lt'
  have HD1 : Hid (x.sz / 2 ^ j + 1 < W16) := by
    have h1 := Nat.div_le_self x.sz (2 ^ j)
    have h2 := x.sz_lt
    have h3 := W16_two
    show _ < _
    omega
  obtain ⟨D, hD⟩ : ∃ D, x.sz / 2 ^ j = D := ⟨_, rfl⟩
  obtain ⟨L, hL⟩ : ∃ L, lost x.sz j = L := ⟨_, rfl⟩
  rw [hD] at HD HD1 ⊢
  rw [hL]
  have HDD := Lib.hid hD
  have HLL := Lib.hid hL
  obtain ⟨s, hs⟩ : ∃ s, x.ng = s := ⟨_, rfl⟩
  rw [hs]
  clear hn h0 hj2 hD hL hk
  go_enter Tryz.func44, Tryz.ntmps44
  go_wp2_with fail
  refine (bits_c _ _ x.sz _ HLT.out (.of_wi ((Blk.new _ _ _).alloc _))).mono ?_; rintro e w1 ⟨rfl, hw1⟩
  subst hw1
  rw [HN.out]
  go_wp2_with fail
  refine (down_c _ _ x.sz j _ HLT.out HJ.out (.of_wi ((Blk.new _ _ _).alloc _))).mono ?_; rintro e w2 ⟨rfl, hb2⟩; rw [HDD.out, HLL.out]; have z_w2 := hb2.size; (try simp at z_w2); obtain ⟨y_w2_0_0, c_w2_0_0, f_w2_0_0, r_w2_0_0, t_w2_0_0, p_w2_0_0⟩ := bq hb2 (w.heap.size); obtain ⟨y_w2_0_1, c_w2_0_1, f_w2_0_1, r_w2_0_1, t_w2_0_1, p_w2_0_1⟩ := bq hb2 (w.heap.size + 1)
  cases s with
  | false =>
    go_wp2_with fail
    refine (made_c _ _ HD.out _).mono ?_; rintro e w3 ⟨rfl, hb3⟩; have z_w3 := hb3.size; (try simp at z_w3); obtain ⟨y_w3_0_0, c_w3_0_0, f_w3_0_0, r_w3_0_0, t_w3_0_0, p_w3_0_0⟩ := bq hb3 (w.heap.size); obtain ⟨y_w3_0_1, c_w3_0_1, f_w3_0_1, r_w3_0_1, t_w3_0_1, p_w3_0_1⟩ := bq hb3 (w.heap.size + 1)
    go_wp2_with fail
    exact bodyPost_row 18 (WI.of (sgn false D)).cells rfl rfl rfl Tryz.underlying47 rfl info_Int (by go_simp) ⟨rfl, below_by⟩
  | true =>
    cases L with
    | false =>
      go_wp2_with fail
      refine (made_c _ _ HD.out _).mono ?_; rintro e w3 ⟨rfl, hb3⟩; have z_w3 := hb3.size; (try simp at z_w3); obtain ⟨y_w3_0_0, c_w3_0_0, f_w3_0_0, r_w3_0_0, t_w3_0_0, p_w3_0_0⟩ := bq hb3 (w.heap.size); obtain ⟨y_w3_0_1, c_w3_0_1, f_w3_0_1, r_w3_0_1, t_w3_0_1, p_w3_0_1⟩ := bq hb3 (w.heap.size + 1)
      go_wp2_with fail
      exact bodyPost_row 18 (WI.of (sgn true D)).cells rfl rfl rfl Tryz.underlying47 rfl info_Int (by go_simp) ⟨rfl, below_by⟩
    | true =>
      go_wp2_with fail
      rw [row_1]
      refine (add_c _ _ _ _ D 1 _ (.of_blk ((Blk.new _ _ _).alloc _)) (.of_blk (Blk.new' _ _ _ (by simp)))).mono ?_; rintro e w3 ⟨rfl, hb3⟩; have z_w3 := hb3.size; (try simp at z_w3); obtain ⟨y_w3_0_0, c_w3_0_0, f_w3_0_0, r_w3_0_0, t_w3_0_0, p_w3_0_0⟩ := bq hb3 (w.heap.size); obtain ⟨y_w3_0_1, c_w3_0_1, f_w3_0_1, r_w3_0_1, t_w3_0_1, p_w3_0_1⟩ := bq hb3 (w.heap.size + 1); obtain ⟨y_w3_1_0, c_w3_1_0, f_w3_1_0, r_w3_1_0, t_w3_1_0, p_w3_1_0⟩ := bq hb3 (w2.heap.size)
      have ne0 : ¬ (w.heap.size = w2.heap.size) := by omega
      have ne1 : ¬ (w.heap.size + 1 = w2.heap.size) := by omega
      go_wp2_with fail
      refine (made_c _ _ HD1.out _).mono ?_; rintro e w4 ⟨rfl, hb4⟩; have z_w4 := hb4.size; (try simp at z_w4); obtain ⟨y_w4_0_0, c_w4_0_0, f_w4_0_0, r_w4_0_0, t_w4_0_0, p_w4_0_0⟩ := bq hb4 (w.heap.size); obtain ⟨y_w4_0_1, c_w4_0_1, f_w4_0_1, r_w4_0_1, t_w4_0_1, p_w4_0_1⟩ := bq hb4 (w.heap.size + 1)
      go_wp2_with fail
      exact bodyPost_row 18 (WI.of (sgn true (D + 1))).cells rfl rfl rfl Tryz.underlying47 rfl info_Int (by go_simp) ⟨rfl, below_by⟩
theorem shift_I (x : WI) (k : Int) (w : World) (hk1 : -9223372036854775808 ≤ k) :
    Calls Tryz.prog 44 #[.agg x.cells, .int .i64 k] w fun e w' => e = .returned (.agg (x.shl k).cells) ∧ Below w.heap.size w w' := by
  by_cases h : x.ov = true ∨ x.sz = 0
  · exact shift_still x k w h
  · have hx : x.ov = false := by cases hx : x.ov; rfl; exact absurd (.inl hx) h
    have h0 : x.sz ≠ 0 := fun e => h (.inr e)
    by_cases hk : 0 ≤ k
    · exact shift_up x k w hx h0 hk
    · exact shift_down x k w hx h0 (by omega) hk1
end Go.Proofs.YtnoidlacjiafdaaGreat
