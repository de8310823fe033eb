/- The walks of package wide's inner functions on sizes: parts, bits, cmp, add, sub. Each returns what its number says; the world keeps all that was there. -/
import Derived.Test.YtfohihjeemmedaaProg
import Derived.Test.YtfohihjeemmedaaEnc
import Derived.WalkKit
import Derived.WalkSpells
import Derived.WalkLawsBesides
import Derived.BigQuiet
import Derived.Deep.QuietTactic
import Derived.Deep.RegionHeld3
import Derived.Laws.Externs
import Derived.Shelf.Spec.BitsCarry
namespace Go.Proofs.Ytfohihjeemmedaa
open Go.RowKit

theorem add64 (x y c : Int) (hx : 0 ≤ x) (hy : 0 ≤ y) (hx' : x < 18446744073709551616) (hy' : y < 18446744073709551616) (hc0 : 0 ≤ c) (hc : c ≤ 1) (w : World) : (callFunc 85 #[.int .u64 x, .int .u64 y, .int .u64 c]).run Try.prog w =
    .ok (.value (.tuple #[.int .u64 ((x + y + c) % 18446744073709551616), .int .u64 ((x + y + c) / 18446744073709551616)])) w := by
  obtain ⟨x, rfl⟩ := Int.eq_ofNat_of_zero_le hx
  obtain ⟨y, rfl⟩ := Int.eq_ofNat_of_zero_le hy
  obtain ⟨c, rfl⟩ := Int.eq_ofNat_of_zero_le hc0
  rw [run_callFunc_extern Try.func85 (by kernel_rfl) (by kernel_rfl) (by kernel_rfl) (e := add64Entry) (by kernel_rfl), run_add64 x y c (by omega) (by omega) (by omega) (by omega)]
  rfl
theorem add64_wd (N M i : Nat) (w : World) : (callFunc 85 #[.int .u64 (wd N i), .int .u64 (wd M i), .int .u64 (carr N M i)]).run Try.prog w =
    .ok (.value (.tuple #[.int .u64 (wd (N + M) i), .int .u64 (carr N M (i + 1))])) w := by
  rw [add64 _ _ _ (wd_nonneg _ _) (wd_nonneg _ _) (wd_lt _ _) (wd_lt _ _) (carr_nonneg _ _ _) (carr_le _ _ _), add_word, carr_succ]
theorem sub64 (x y b : Int) (hx : 0 ≤ x) (hy : 0 ≤ y) (hy' : y < 18446744073709551616) (hb0 : 0 ≤ b) (hb : b ≤ 1) (w : World) : (callFunc 106 #[.int .u64 x, .int .u64 y, .int .u64 b]).run Try.prog w =
    .ok (.value (.tuple #[.int .u64 ((x - y - b) % 18446744073709551616), .int .u64 (if x < y + b then 1 else 0)])) w := by
  obtain ⟨x, rfl⟩ := Int.eq_ofNat_of_zero_le hx
  obtain ⟨y, rfl⟩ := Int.eq_ofNat_of_zero_le hy
  obtain ⟨b, rfl⟩ := Int.eq_ofNat_of_zero_le hb0
  have e1 : (((x + 18446744073709551616 - y - b) % 18446744073709551616 : Nat) : Int) = ((x : Int) - y - b) % 18446744073709551616 := by omega
  have e2 : ((if x < y + b then 1 else 0 : Nat) : Int) = if (x : Int) < y + b then 1 else 0 := by split <;> split <;> omega
  rw [← e1, ← e2]
  rw [run_callFunc_extern Try.func106 (by kernel_rfl) (by kernel_rfl) (by kernel_rfl) (e := sub64Entry) (by kernel_rfl), run_sub64 x y b (by omega)]
  rfl
theorem sub64_wd (N M i : Nat) (hle : M ≤ N) (w : World) : (callFunc 106 #[.int .u64 (wd N i), .int .u64 (wd M i), .int .u64 (borr N M i)]).run Try.prog w =
    .ok (.value (.tuple #[.int .u64 (wd (N - M) i), .int .u64 (borr N M (i + 1))])) w := by
  rw [sub64 _ _ _ (wd_nonneg _ _) (wd_nonneg _ _) (wd_lt _ _) (borr_nonneg _ _ _) (borr_le _ _ _), sub_word _ _ _ hle, borr_succ]

theorem info_size : (Try.prog.info? 66).map (·.size) = some 16 := by kernel_rfl
theorem info_Int : (Try.prog.info? 68).map (·.size) = some 18 := by kernel_rfl

set_option maxHeartbeats 400000 in
/-- (*size).parts: how many words. -/
theorem parts_c (b o N : Nat) (w : World) (hN : N < W16) (hx : RowAt w b o N) :
    Calls Try.prog 83 #[.pointer (some ⟨b, o, none⟩)] w fun e w' => e = .returned (.int .i64 (np N)) ∧ w = w' := by
  have HN := Lib.hid hN
  clear hN
  go_enter Try.func83, Try.ntmps83
  go_wp2
  go_loop [3] (fun i => ∃ k : Nat, k ≤ 16 ∧ i = .int .i64 k ∧ LtW N k) (fun i => (intOf i).toNat)
  case atStart => exact ⟨16, by omega, rfl, .of16 HN.out⟩
  case round =>
    obtain ⟨k, hk, rfl, hlt⟩ := hrel
    rcases k with _ | k
    · have e : np N = 0 := Nat.le_zero.1 ((np_le_iff N 0).2 hlt)
      have E := Lib.hid e
      clear e
      go_wp2
      go_ret
      exact ⟨ret_int (by rw [E.out]; rfl), rfl⟩
    · have hc : w.cell? ⟨b, o + k, none⟩ = some (.int .u64 (wd N k)) := (hx k (by omega)).1
      have h1 : (0 : Int) < (k : Int) + 1 := by omega
      by_cases hz : wdn N k = 0
      · have hz' : (wd N k == 0) = true := by simp [wd, hz]
        have hn := lt_pow_of_wdn_zero N k hlt hz
        have HN' : LtW N k := hn
        clear hz hn
        go_wp2
        go_round
        case rel => exact ⟨k, by omega, by go_num, HN'⟩
        case measure => simp [intOf] <;> omega
      · have hz' : (wd N k == 0) = false := by simp [wd]; omega
        have e : np N = k + 1 := np_unique N (k + 1) hlt (.inr (pow_le_of_wdn_ne N k hz))
        have E := Lib.hid e
        clear hz e
        go_wp2
        go_ret
        exact ⟨ret_int (by rw [E.out]; simp), rfl⟩

theorem cmp_step_lt (N M k : Nat) (h : Hid (N / 2 ^ (64 * (k + 1)) = M / 2 ^ (64 * (k + 1)))) (h1 : wd N k < wd M k) : cmpN N M = -1 := by
  unfold cmpN; rw [if_pos (lt_of_word N M k h.out h1)]
theorem cmp_step_gt (N M k : Nat) (h : Hid (N / 2 ^ (64 * (k + 1)) = M / 2 ^ (64 * (k + 1)))) (h1 : wd M k < wd N k) : cmpN N M = 1 := by
  have := lt_of_word M N k h.out.symm h1
  unfold cmpN; rw [if_neg (by omega), if_pos this]
theorem cmpN_self (N : Nat) : cmpN N N = 0 := by unfold cmpN; simp

set_option maxHeartbeats 1000000 in
/-- (*size).cmp. -/
theorem cmp_c (b o b' o' N M : Nat) (w : World) (hN : N < W16) (hM : M < W16) (hx : RowAt w b o N) (hy : RowAt w b' o' M) :
    Calls Try.prog 88 #[.pointer (some ⟨b, o, none⟩), .pointer (some ⟨b', o', none⟩)] w fun e w' => e = .returned (.int .i64 (cmpN N M)) ∧ Below w.heap.size w w' := by
  have HN := Lib.hid hN
  have HM := Lib.hid hM
  clear hN hM
  go_enter Try.func88, Try.ntmps88
  go_wp2
  go_loopw [5] (fun i wr => ∃ k : Int, -1 ≤ k ∧ k ≤ 15 ∧ i = .int .i64 k ∧ Hid (N / 2 ^ (64 * (k + 1).toNat) = M / 2 ^ (64 * (k + 1).toNat)) ∧ Below w.heap.size w wr) (fun i _ => (intOf i + 1).toNat)
  case atStart =>
    refine ⟨15, by omega, by omega, rfl, ?_, Below.refl _ _⟩
    exact (LtW.div (LtW.of_eq (by decide) HN.out)).trans (LtW.div (LtW.of_eq (by decide) HM.out)).symm
  case round =>
    obtain ⟨k, hk0, hk, rfl, heq, hb⟩ := hrel
    by_cases h0 : 0 ≤ k
    · obtain ⟨k, rfl⟩ := Int.eq_ofNat_of_zero_le h0
      have hk16 : k < 16 := by omega
      have c1 : wr.cell? ⟨b, o + k, none⟩ = some (.int .u64 (wd N k)) := (hx.below hb k hk16).1
      have c2 : wr.cell? ⟨b', o' + k, none⟩ = some (.int .u64 (wd M k)) := (hy.below hb k hk16).1
      have hlt16 : (k : Int) < 16 := by omega
      have heq' : Hid (N / 2 ^ (64 * (k + 1)) = M / 2 ^ (64 * (k + 1))) := by
        have := heq.out
        rw [show ((k : Int) + 1).toNat = k + 1 by omega] at this
        exact this
      have HB := Lib.hid hb
      clear heq hb
      by_cases h1 : wd N k < wd M k
      · go_wp2
        go_quiet (fail)
        go_wp2
        go_ret
        exact ⟨ret_int (cmp_step_lt N M k heq' h1).symm, by first | exact HB.out | exact below_drewN HB.out _ | exact below_drewN (below_drewN HB.out _) _⟩
      · by_cases h2 : wd M k < wd N k
        · have h1' : decide (wd N k < wd M k) = false := decide_eq_false h1
          go_wp2
          go_quiet (fail)
          go_wp2
          go_quiet (fail)
          go_wp2
          go_ret
          exact ⟨ret_int (cmp_step_gt N M k heq' h2).symm, by first | exact HB.out | exact below_drewN HB.out _ | exact below_drewN (below_drewN HB.out _) _⟩
        · have h1' : decide (wd N k < wd M k) = false := decide_eq_false h1
          have h2' : decide (wd M k < wd N k) = false := decide_eq_false h2
          have hs := word_step N M k heq'.out h1 h2
          have HS := Lib.hid hs
          clear hs
          go_wp2
          go_quiet (fail)
          go_wp2
          go_quiet (fail)
          go_wp2
          go_roundw
          case rel =>
            refine ⟨(k : Int) - 1, by omega, by omega, rfl, ?_, by first | exact HB.out | exact below_drewN HB.out _ | exact below_drewN (below_drewN HB.out _) _⟩
            have := HS.out
            rw [show ((k : Int) - 1 + 1).toNat = k by omega]
            exact this
          case measure => simp [intOf] <;> omega
    · have : k = -1 := by omega
      subst this
      have he : cmpN N M = 0 := by
        have := heq.out
        rw [show ((-1 : Int) + 1).toNat = 0 by omega] at this
        simp at this
        subst this; exact cmpN_self N
      have HE := Lib.hid he
      have HB := Lib.hid hb
      clear he hb heq
      go_wp2
      go_ret
      exact ⟨ret_int HE.out.symm, by first | exact HB.out | exact below_drewN HB.out _ | exact below_drewN (below_drewN HB.out _) _⟩

set_option maxHeartbeats 400000 in
/-- (*size).add. -/
theorem add_c (b o b' o' : Nat) (N M : Nat) (w : World) (hx : RowAt w b o N) (hy : RowAt w b' o' M) :
    Calls Try.prog 87 #[.pointer (some ⟨b, o, none⟩), .pointer (some ⟨b', o', none⟩)] w fun e w' => e = .returned (.tuple #[.agg (rowW 16 (N + M)), .int .u64 (carr N M 16)]) ∧ Below w.heap.size w w' := by
  go_enter Try.func87, Try.ntmps87
  go_wp2
  go_loopw [7, 9] (fun c i wr => ∃ k : Nat, k ≤ 16 ∧ i = .int .i64 k ∧ c = .int .u64 (carr N M k) ∧ Below w.heap.size w wr ∧ Blk wr (w.heap.size + 1) (rowW 16 ((N + M) % 2 ^ (64 * k))) 66 ∧ Blk wr w.heap.size (rowW 16 0) 66) (fun _ i _ => 16 - (intOf i).toNat)
  case atStart =>
    refine ⟨0, by omega, rfl, by rw [carr_zero], ((Below.refl _ _).alloc (Nat.le_refl _) _).alloc (by simp) _, ?_, ?_⟩
    · rw [show (N + M) % 2 ^ (64 * 0) = 0 by simp [Nat.mod_one], rowW_zero16]; exact Blk.new' _ _ _ (by simp)
    · rw [rowW_zero16]; exact (Blk.new _ _ _).alloc _
  case round =>
    obtain ⟨k, hk, rfl, rfl, hb, h1, h0⟩ := hrel
    by_cases hlt : k < 16
    · have c1 : wr.cell? ⟨b, o + k, none⟩ = some (.int .u64 (wd N k)) := (hx.below hb k hlt).1
      have c2 : wr.cell? ⟨b', o' + k, none⟩ = some (.int .u64 (wd M k)) := (hy.below hb k hlt).1
      have c3 : wr.cell? ⟨w.heap.size + 1, k, none⟩ = some (.int .u64 (wd ((N + M) % 2 ^ (64 * k)) k)) := h1.cell (rowW_get _ _ _ hlt)
      have c4 : wr.frozen? ⟨w.heap.size + 1, k, none⟩ = false := h1.frozen k
      have hk1 : (k : Int) < 16 := by omega
      have hk0 : (0 : Int) ≤ k := by omega
      have hadd := fun w => add64_wd N M k w
      have hn1 : w.heap.size + 1 ≠ b := by have := hx.lt; omega
      have hn2 : w.heap.size + 1 ≠ b' := by have := hy.lt; omega
      have HB := Lib.hid hb
      have HH1 := Lib.hid h1
      have HH0 := Lib.hid h0
      clear hb h1 h0
      go_wp2
      go_region_held3 (fun w' => w'.cell? ⟨b, o + k, none⟩ = some (.int .u64 (wd N k)) ∧ w'.cell? ⟨b', o' + k, none⟩ = some (.int .u64 (wd M k))) (go_keep) (fail)
      go_wp2
      refine ⟨⟨k + 1, by omega, by go_num, rfl, ?_, ?_, ?_⟩, by simp [intOf]; omega⟩
      · exact HB.out.drew.setCell (by simp) _
      · rw [← rowW_fill]; exact HH1.out.drew.setCell_same _ _
      · exact HH0.out.drew.setCell_other (by simp) _
    · have hk16 : k = 16 := by omega
      subst hk16
      rw [rowW_mod] at h1
      have HB := Lib.hid hb
      have HH := Lib.hid (Blk.setRow_same h0 (rowW 16 (N + M)))
      clear hb
      go_wp2_with (first | (refine wpList_load_row rfl 66 _ rfl _ rfl 66 _ (0,0) _ h1 Try.underlying66 rfl (by rw [rowW_size]; exact info_size) ?_) | (refine wpList_store_row rfl 66 _ _ rfl _ _ rfl rfl 66 _ h0 (by rw [rowW_size]; exact info_size) (by rw [rowW_size, rowW_size]) (rowW_oneCell _ _) ?_))
      exact bodyPost_ret (v := .tuple #[.agg (rowW 16 (N + M)), .int .u64 (carr N M 16)]) (by exact results_row_tmp (p := 4) (u := 5) (ty := 66) rfl _ _ _ _ _ _ rfl HH.out Try.underlying66 rfl (by rw [rowW_size]; exact info_size)) rfl ⟨rfl, Below_setRow HB.out (by omega) _⟩

set_option maxHeartbeats 400000 in
/-- (*size).sub. -/
theorem sub_c (b o b' o' : Nat) (N M : Nat) (hle : M ≤ N) (w : World) (hx : RowAt w b o N) (hy : RowAt w b' o' M) :
    Calls Try.prog 89 #[.pointer (some ⟨b, o, none⟩), .pointer (some ⟨b', o', none⟩)] w fun e w' => e = .returned (.agg (rowW 16 (N - M))) ∧ Below w.heap.size w w' := by
  go_enter Try.func89, Try.ntmps89
  go_wp2
  go_loopw [6, 8] (fun c i wr => ∃ k : Nat, k ≤ 16 ∧ i = .int .i64 k ∧ c = .int .u64 (borr N M k) ∧ Below w.heap.size w wr ∧ Blk wr (w.heap.size + 1) (rowW 16 ((N - M) % 2 ^ (64 * k))) 66 ∧ Blk wr w.heap.size (rowW 16 0) 66) (fun _ i _ => 16 - (intOf i).toNat)
  case atStart =>
    refine ⟨0, by omega, rfl, by rw [borr_zero], ((Below.refl _ _).alloc (Nat.le_refl _) _).alloc (by simp) _, ?_, ?_⟩
    · rw [show (N - M) % 2 ^ (64 * 0) = 0 by simp [Nat.mod_one], rowW_zero16]; exact Blk.new' _ _ _ (by simp)
    · rw [rowW_zero16]; exact (Blk.new _ _ _).alloc _
  case round =>
    obtain ⟨k, hk, rfl, rfl, hb, h1, h0⟩ := hrel
    by_cases hlt : k < 16
    · have c1 : wr.cell? ⟨b, o + k, none⟩ = some (.int .u64 (wd N k)) := (hx.below hb k hlt).1
      have c2 : wr.cell? ⟨b', o' + k, none⟩ = some (.int .u64 (wd M k)) := (hy.below hb k hlt).1
      have c3 : wr.cell? ⟨w.heap.size + 1, k, none⟩ = some (.int .u64 (wd ((N - M) % 2 ^ (64 * k)) k)) := h1.cell (rowW_get _ _ _ hlt)
      have c4 : wr.frozen? ⟨w.heap.size + 1, k, none⟩ = false := h1.frozen k
      have hk1 : (k : Int) < 16 := by omega
      have hk0 : (0 : Int) ≤ k := by omega
      have hadd := fun w => sub64_wd N M k hle w
      have hn1 : w.heap.size + 1 ≠ b := by have := hx.lt; omega
      have hn2 : w.heap.size + 1 ≠ b' := by have := hy.lt; omega
      have HB := Lib.hid hb
      have HH1 := Lib.hid h1
      have HH0 := Lib.hid h0
      clear hb h1 h0
      go_wp2
      go_region_held3 (fun w' => w'.cell? ⟨b, o + k, none⟩ = some (.int .u64 (wd N k)) ∧ w'.cell? ⟨b', o' + k, none⟩ = some (.int .u64 (wd M k))) (go_keep) (fail)
      go_wp2
      refine ⟨⟨k + 1, by omega, by go_num, rfl, ?_, ?_, ?_⟩, by simp [intOf]; omega⟩
      · exact HB.out.drew.setCell (by simp) _
      · rw [← rowW_fill]; exact HH1.out.drew.setCell_same _ _
      · exact HH0.out.drew.setCell_other (by simp) _
    · have hk16 : k = 16 := by omega
      subst hk16
      rw [rowW_mod] at h1
      have HB := Lib.hid hb
      have HH := Lib.hid (Blk.setRow_same h0 (rowW 16 (N - M)))
      clear hb
      go_wp2_with (first | (refine wpList_load_row rfl 66 _ rfl _ rfl 66 _ (0,0) _ h1 Try.underlying66 rfl (by rw [rowW_size]; exact info_size) ?_) | (refine wpList_store_row rfl 66 _ _ rfl _ _ rfl rfl 66 _ h0 (by rw [rowW_size]; exact info_size) (by rw [rowW_size, rowW_size]) (rowW_oneCell _ _) ?_))
      exact bodyPost_ret (v := .agg (rowW 16 (N - M))) (by exact results_row (p := 4) (ty := 66) rfl _ _ _ _ _ _ rfl HH.out Try.underlying66 rfl (by rw [rowW_size]; exact info_size)) rfl ⟨rfl, Below_setRow HB.out (by omega) _⟩
end Go.Proofs.Ytfohihjeemmedaa
