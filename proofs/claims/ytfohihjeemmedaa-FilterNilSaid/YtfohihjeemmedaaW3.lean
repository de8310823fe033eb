/- Rules for rows of package wide at this program; the walks of bits, tooGreat, made, Of. -/
import Derived.Test.YtfohihjeemmedaaW2
import Derived.StillTailTactics
import Derived.Test.YtfohihjeemmedaaEqr
namespace Go.Proofs.Ytfohihjeemmedaa
open Go.RowKit

/-! ### Rules -/
theorem info_word : (Try.prog.info? 36).map (·.size) = some 1 := by kernel_rfl
@[go_sem] theorem equalIn_size (w : World) (N M : Nat) : (Op.equalIn 10000 66 (.agg (rowW 16 N)) (.agg (rowW 16 M))).run Try.prog w = .ok (eqW N M) w :=
  run_equalIn_row 9998 66 36 16 N M w Try.underlying66 Try.underlying36 info_word
theorem cellsI_lit : cellsI false false 0 = #[.bool false, .bool false, .int .u64 0, .int .u64 0, .int .u64 0, .int .u64 0, .int .u64 0, .int .u64 0, .int .u64 0, .int .u64 0, .int .u64 0, .int .u64 0, .int .u64 0, .int .u64 0, .int .u64 0, .int .u64 0, .int .u64 0, .int .u64 0] := by
  rw [cellsI, rowW_zero16]; rfl
@[go_sem ↓] theorem zero_Int (w : World) : (zeroValue 68).run Try.prog w = .ok (.agg (cellsI false false 0)) w := by
  rw [cellsI_lit]; exact Try.zeroValue68 w
@[go_sem ↓] theorem zero_size (w : World) : (zeroValue 66).run Try.prog w = .ok (.agg (rowW 16 0)) w := by
  rw [rowW_zero16]; exact Try.zeroValue66 w
set_option maxHeartbeats 400000 in
theorem bits_c0 (b o : Nat) (w : World) (hN : 0 < W16) (hx : RowAt w b o 0) :
    Calls Try.prog 93 #[.pointer (some ⟨b, o, none⟩)] w fun e w' => e = .returned (.int .i64 (bl 0)) ∧ w = w' := by
  have HN := Lib.hid hN
  clear hN
  go_enter Try.func93, Try.ntmps93
  go_wp2_with (go_at_call 83; refine (parts_c _ _ _ _ HN.out hx).mono ?_; rintro e w' ⟨rfl, rfl⟩; rw [show np 0 = 0 from rfl])
  go_ret
  exact ⟨rfl, rfl⟩

set_option maxHeartbeats 400000 in
/-- (*size).bits. -/
theorem bits_c (b o N : Nat) (w : World) (hN : N < W16) (hx : RowAt w b o N) :
    Calls Try.prog 93 #[.pointer (some ⟨b, o, none⟩)] w fun e w' => e = .returned (.int .i64 (bl N)) ∧ w = w' := by
  have HN := Lib.hid hN
  clear hN
  by_cases h0 : N = 0
  · subst h0; exact bits_c0 b o w HN.out hx
  · obtain ⟨n, hn⟩ : ∃ n, np N = n + 1 := ⟨np N - 1, by have : np N ≠ 0 := fun h => h0 ((np_zero_iff N).1 h); omega⟩
    have hlt : N < 2 ^ (64 * (n + 1)) := by rw [← hn]; exact np_lt N
    have hw : wdn N n ≠ 0 := by
      intro h
      have := (np_le_iff N n).2 (lt_pow_of_wdn_zero N n hlt h)
      omega
    have hn16 : n < 16 := by have := (np_le_iff N 16).2 (LtW.of16 HN.out); omega
    have hbl := bl_top N n hlt hw
    have hc : w.cell? ⟨b, o + n, none⟩ = some (.int .u64 (wd N n)) := (hx n hn16).1
    have hbs : bl (wdn N n) ≤ 64 := (bl_le_iff _ _).2 (wdn_lt N n)
    have h16 : (n : Int) < 16 := by omega
    have hne : ((n : Int) + 1 == 0) = false := by simp; omega
    have hbs' : (bl (wd N n).toNat : Int) ≤ 64 := by rw [show (wd N n).toNat = wdn N n by unfold wd; omega]; omega
    have HB := Lib.hid hbl
    have HW := Lib.hid hw
    have HL := Lib.hid hlt
    have HNP := Lib.hid hn
    clear hbl hw hlt hn hbs h0
    go_enter Try.func93, Try.ntmps93
    go_wp2_with (first | (go_at_call 83; refine (parts_c _ _ _ _ HN.out hx).mono ?_; rintro e w' ⟨rfl, rfl⟩; rw [HNP.out, Int.natCast_succ]) | (go_at_call 107; refine (len64_c _ _ (wd_nonneg _ _) (wd_lt _ _)).mono ?_; rintro e w' ⟨rfl, rfl⟩))
    go_ret
    exact ⟨ret_int (by rw [HB.out]; simp [wd]), rfl⟩

set_option maxHeartbeats 400000 in
/-- tooGreat. -/
theorem tooGreat_c (w : World) :
    Calls Try.prog 82 #[] w fun e w' => e = .returned (.agg (cellsI false true 0)) ∧ Below w.heap.size w w' := by
  go_enter Try.func82, Try.ntmps82
  go_wp2
  exact bodyPost_row 18 (cellsI false true 0) rfl rfl rfl Try.underlying68 rfl info_Int (by go_simp) ⟨rfl, (Below.refl _ _).alloc (Nat.le_refl _) _⟩

set_option maxRecDepth 100000 in
set_option maxHeartbeats 400000 in
/-- made: a number of a sign and a size. -/
theorem made_c (n : Bool) (N : Nat) (hN : N < W16) (w : World) :
    Calls Try.prog 86 #[.bool n, .agg (rowW 16 N)] w fun e w' => e = .returned (.agg (WI.of (sgn n N)).cells) ∧ Below w.heap.size w w' := by
  have HN := Lib.hid hN
  clear hN
  by_cases hb : bl N ≤ 1023
  · have E := Lib.hid (WI.of_sgn (n := n) hb)
    have hle : (bl N : Int) ≤ 1023 := by omega
    cases n with
    | false =>
      go_enter Try.func86, Try.ntmps86
      go_wp2_with (first | (go_at_call 93; refine (bits_c _ _ _ _ HN.out (.of_blk (Blk.new _ _ _ |>.alloc _))).mono ?_; rintro e w' ⟨rfl, rfl⟩))
      refine still_tail 8 (by kernel_rfl) (by kernel_rfl) ?_
      simp only [List.take_succ_cons, List.take_zero, List.drop_succ_cons, List.drop_zero]
      repeat still_step
      try refine wpStill_nil ?_
      go_wp2
      exact bodyPost_row 18 (cellsI false false N) rfl rfl rfl Try.underlying68 rfl info_Int (by go_simp) ⟨by rw [E.out]; rfl, (((Below.refl _ _).alloc (Nat.le_refl _) _).alloc (by simp) _).drew⟩
    | true =>
      have hq := eqW_zero N HN.out
      have HQ := Lib.hid hq
      clear hq
      by_cases h0 : N = 0
      · have hq : eqW N 0 = true := by rw [HQ.out]; simp [h0]
        have H0 := Lib.hid h0
        clear h0
        go_enter Try.func86, Try.ntmps86
        go_wp2_with (first | (go_at_call 93; refine (bits_c _ _ _ _ HN.out (.of_blk (Blk.new _ _ _ |>.alloc _))).mono ?_; rintro e w' ⟨rfl, rfl⟩))
        refine still_tail 8 (by kernel_rfl) (by kernel_rfl) ?_
        simp only [List.take_succ_cons, List.take_zero, List.drop_succ_cons, List.drop_zero]
        repeat still_step
        try refine wpStill_nil ?_
        go_wp2
        exact bodyPost_row 18 (cellsI false false N) rfl rfl rfl Try.underlying68 rfl info_Int (by go_simp) ⟨by rw [E.out, H0.out]; rfl, (((Below.refl _ _).alloc (Nat.le_refl _) _).alloc (by simp) _).drew⟩
      · have hq : eqW N 0 = false := by rw [HQ.out]; simp [h0]
        have H0 := Lib.hid h0
        clear h0
        go_enter Try.func86, Try.ntmps86
        go_wp2_with (first | (go_at_call 93; refine (bits_c _ _ _ _ HN.out (.of_blk (Blk.new _ _ _ |>.alloc _))).mono ?_; rintro e w' ⟨rfl, rfl⟩))
        refine still_tail 8 (by kernel_rfl) (by kernel_rfl) ?_
        simp only [List.take_succ_cons, List.take_zero, List.drop_succ_cons, List.drop_zero]
        repeat still_step
        try refine wpStill_nil ?_
        go_wp2
        exact bodyPost_row 18 (cellsI true false N) rfl rfl rfl Try.underlying68 rfl info_Int (by go_simp) ⟨by rw [E.out]; simp [H0.out], (((Below.refl _ _).alloc (Nat.le_refl _) _).alloc (by simp) _).drew⟩
  · have E := Lib.hid (WI.of_sgn_over (n := n) (N := N) (by omega))
    have hle : (1023 : Int) < bl N := by omega
    go_enter Try.func86, Try.ntmps86
    go_wp2_with (first | (go_at_call 93; refine (bits_c _ _ _ _ HN.out (.of_blk (Blk.new _ _ _ |>.alloc _))).mono ?_; rintro e w' ⟨rfl, rfl⟩) | (go_at_call 82; refine (tooGreat_c _).mono ?_; rintro e w1 ⟨rfl, hb1⟩; have z_w1 := hb1.size; (try simp at z_w1); obtain ⟨y_w1_0_0, c_w1_0_0, f_w1_0_0, r_w1_0_0, t_w1_0_0, p_w1_0_0⟩ := bk hb1 (w.heap.size) (by first | omega | (simp; done) | (simp; omega) | fail); obtain ⟨y_w1_0_1, c_w1_0_1, f_w1_0_1, r_w1_0_1, t_w1_0_1, p_w1_0_1⟩ := bk hb1 (w.heap.size + 1) (by first | omega | (simp; done) | (simp; omega) | fail)))
    exact bodyPost_row 18 (cellsI false true 0) rfl rfl rfl Try.underlying68 rfl info_Int (by go_simp) ⟨by rw [E.out], (by repeat (first | exact Below.refl _ _ | exact Below_of_hid (by assumption) | refine Below.drew ?_ | refine below_drewN ?_ _ | refine Below_putRow ?_ (by first | omega | (simp; done) | (simp; omega) | fail) _ _ | refine Below.alloc ?_ (by first | omega | (simp; done) | (simp; omega) | fail) _ | refine Below.setCell ?_ (by first | omega | (simp; done) | (simp; omega) | fail) _ | refine Below.trans ?_ (Below.mono (by assumption) (by first | omega | (simp; done) | (simp; omega) | fail))))⟩
end Go.Proofs.Ytfohihjeemmedaa
