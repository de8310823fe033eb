/- The walk of the document's product of digits: times. The walk of the document's shift to the left: left. The walk of the document's shift to the right: right. A region that draws its order, whose calls' results are known by what they mean alone (they may lie anywhere), and that may end in a tail whose order is forced: ONE walk, in the order of the text, serves every order. No program in sight. -/
import Derived.Test.YtilginoibhfeiaaGreatRA
import Derived.StillTail
import Derived.Deep.Quiet
import Derived.Below
import Derived.Tactics
import Derived.BigQuiet
import Derived.Lib.Hide
namespace Go.Proofs.YtilginoibhfeiaaGreat
open Go.RowKit

end Go.Proofs.YtilginoibhfeiaaGreat
namespace Go.Proofs.YtilginoibhfeiaaGreat
open Go.RowKit

theorem bits_or_u32_nat (a b : Nat) (ha : a < 4294967296) (hb : b < 4294967296) : bits .or .u32 (a : Int) (b : Int) = ((a ||| b : Nat) : Int) := by
  have hx : a ||| b < 2 ^ 32 := Nat.or_lt_two_pow (by omega) (by omega)
  have h1 : (BitVec.ofInt 32 (a : Int)).toNat = a := by
    rw [BitVec.ofInt_natCast, BitVec.toNat_ofNat]; exact Nat.mod_eq_of_lt (by omega)
  have h2 : (BitVec.ofInt 32 (b : Int)).toNat = b := by
    rw [BitVec.ofInt_natCast, BitVec.toNat_ofNat]; exact Nat.mod_eq_of_lt (by omega)
  show IntKind.u32.wrap ((BitVec.ofInt 32 (a : Int) ||| BitVec.ofInt 32 (b : Int)).toNat : Int) = _
  rw [BitVec.toNat_or, h1, h2, IntKind.wrap_u32]
  omega
set_option maxRecDepth 100000 in
set_option maxHeartbeats 1000000 in
theorem left_r (s : Value) (xs : List Nat) (k : Nat) (w : World) (hs : Rd w s xs) (hx : xs.length ≤ 1000000) (hk : k ≤ 1000000) :
    Calls Tryz.prog 171 #[s, .int .i64 k] w fun e w' => (∃ s', e = .returned s' ∧ Rd w' s' (dg (nv xs * 2 ^ k))) ∧ Below w.heap.size w w' := by
  obtain ⟨i0, hi, hz0, hz1, hz2⟩ := info_parts infoU32
  obtain ⟨A, ca, rfl⟩ := hs.form
  have HS := Lib.hid hs
  clear hs
  obtain ⟨X, hX⟩ : ∃ f : Nat → Nat, f = fun i => xs.getD i 0 := ⟨_, rfl⟩
  have Xlt : Hid (∀ i, X i < 4294967296) := by rw [hX]; exact getD_lt HS.out.1
  have EX : Hid (nvf X xs.length = nv xs) := by rw [hX]; exact nvf_pad xs _ (Nat.le_refl _)
  have hX' : Hid (∀ i, xs.getD i 0 = X i) := fun i => by rw [hX]
  have RX := Lib.hid (fun i hi => HS.out.at' (n := xs.length) i hi)
  clear hX HS
  obtain ⟨n, hn⟩ : ∃ n, xs.length = n := ⟨_, rfl⟩
  obtain ⟨q, hq⟩ : ∃ q, q = k / 32 := ⟨_, rfl⟩
  obtain ⟨r, hr⟩ : ∃ r, r = k % 32 := ⟨_, rfl⟩
  have hr32 : r < 32 := by omega
  have hq2 : q ≤ 1000000 := by omega
  have hsp : Hid (4294967296 ^ q * 2 ^ r = 2 ^ k) := by rw [hq, hr]; exact shift_split' k
  have tq : (k : Int).tdiv 32 = (q : Int) := by rw [Int.tdiv_eq_ediv_of_nonneg (by omega)]; omega
  have tr : (k : Int).tmod 32 = (r : Int) := by rw [Int.tmod_eq_emod_of_nonneg (by omega)]; omega
  have hm := run_make_row (P := Tryz.prog) 63 182 i0 (.int .u32 0) Tryz.underlying63 hi hz0 hz1 rfl .i64 .i64 (xs.length + q + 1) (by rw [hz2]; omega) (by omega)
  push_cast at hm
  rw [hn] at EX hx hm RX ⊢
  clear hq hr
  by_cases h0 : n = 0
  · have E : Hid (nv xs * 2 ^ k = 0) := by
      show _ = _
      rw [← EX.out, h0]; exact Nat.zero_mul _
    subst h0
    clear hm
    go_enter Tryz.func171, Tryz.ntmps171
    go_wp2_with fail
    go_ret
    exact ⟨⟨_, rfl, by rw [E.out, dg_zero]; exact ⟨fun d hd => by simp at hd, .inl ⟨rfl, rfl⟩⟩⟩, Below.refl _ _⟩
  have n0 : ¬ ((n : Int) = 0) := by omega
  go_enter Tryz.func171, Tryz.ntmps171
  go_wp2_with fail
  clear hm
  have hr0 := Lib.hid (World.rowIs_made w (.int .u32 0) (n + q + 1) 182)
  go_loopw [21] (fun t21 wr => ∃ (i : Nat) (F : Nat → Nat), i ≤ n ∧ t21 = .int .i64 i ∧ Hid (Lft F X q r i (n + q + 1)) ∧ Hid (wr.rowIs w.heap.size 182 (n + q + 1) (fun i => .int .u32 ((F i : Nat) : Int))) ∧ Hid (Below w.heap.size w wr)) (fun t21 _ => n - (intOf t21).toNat)
  case atStart => exact ⟨0, fun _ => 0, Nat.zero_le _, rfl, lft_zero X q r (n + q + 1), hr0.out.congr (fun i _ => by simp), below_by⟩
  case round =>
    obtain ⟨i, F, hi', rfl, HL, HRW, HBR⟩ := hrel
    by_cases hlt : i < n
    · obtain ⟨ba, oa, rfl, hba, cA, uA⟩ := RX.out i hlt
      have cA' := (HBR.out.cell (p := ⟨ba, oa + i, none⟩) hba).trans cA
      rw [hX'.out] at cA' uA
      have hbs := HBR.out.size
      have hck := HRW.out.cell (show i + q < n + q + 1 by omega)
      have hck2 := HRW.out.cell (show i + q + 1 < n + q + 1 by omega)
      have hfk := HRW.out.frozen
      have hz := HL.out.zero (i + q + 1) (by omega)
      rw [hz] at hck2
      have HN := Lib.hid (lft_next HL.out (Xlt.out i) hr32 (by omega))
      have k0 : (0 : Int) ≤ (i : Int) := by omega
      have k1 : (i : Int) < (n : Int) := by omega
      have nb : ¬ ba = w.heap.size := by omega
      obtain ⟨x, hx1⟩ : ∃ x, X i = x := ⟨_, rfl⟩
      rw [hx1] at cA' uA HN
      clear cA hx1 hz
      have hp : x * 2 ^ r < 18446744073709551616 := by
        have := high_part x r uA
        have h2 : (2 : Nat) ^ r ≤ 4294967296 := Nat.pow_le_pow_right (n := 2) (by decide) (by omega : r ≤ 32)
        omega
      have hw : IntKind.u64.wrap ((x : Int) * 2 ^ r) = ((x * 2 ^ r : Nat) : Int) := by
        rw [show ((x : Int) * 2 ^ r) = ((x * 2 ^ r : Nat) : Int) by push_cast; rfl, IntKind.wrap_u64]; omega
      have hw1 : ((x * 2 ^ r : Nat) : Int) % 4294967296 = ((x * 2 ^ r % 4294967296 : Nat) : Int) := by omega
      have hw2 : ((x * 2 ^ r : Nat) : Int) / 4294967296 % 4294967296 = ((x * 2 ^ r / 4294967296 : Nat) : Int) := by omega
      have hW := Lib.hid (And.intro hw (And.intro hw1 hw2))
      have hFd := HL.out.dig (i + q)
      clear hp hw hw1 hw2
      go_wp2_with fail
      rw [hW.out.1, hW.out.2.1, hW.out.2.2, bits_or_u32_nat _ _ hFd (Nat.mod_lt _ (by decide)), show bits .or .u32 0 ((x * 2 ^ r / 4294967296 : Nat) : Int) = ((0 ||| x * 2 ^ r / 4294967296 : Nat) : Int) from bits_or_u32_nat 0 _ (by decide) (Nat.lt_of_lt_of_le (high_part x r uA) (show (2 : Nat) ^ r ≤ 4294967296 from Nat.pow_le_pow_right (n := 2) (j := 32) (by decide) (by omega))), Nat.zero_or]
      refine ⟨⟨i + 1, _, by omega, by first | rfl | go_num, HN.out, ?_, ?_⟩, by simp [intOf]; omega⟩
      · refine Lib.hid (((HRW.out.set (i + q) _).set (i + q + 1) _).congr (fun j _ => ?_))
        unfold setD
        by_cases e : j = i + q + 1
        · rw [if_pos e, if_pos e]
        · rw [if_neg e, if_neg e]
          by_cases e2 : j = i + q
          · rw [if_pos e2, if_pos e2]
          · rw [if_neg e2, if_neg e2]
      · exact Lib.hid ((HBR.out.setCell (Nat.le_refl _) _).setCell (Nat.le_refl _) _)
    · obtain rfl : i = n := by omega
      have k1 : ¬ (i : Int) < (i : Int) := by omega
      have hbs := HBR.out.size
      have hrd := Lib.hid (Rd.row HRW.out (by omega) (fun j _ => HL.out.dig j))
      have hval : Hid (nvf F (i + q + 1) = nv xs * 2 ^ k) := by have := HL.out.val; rw [EX.out, hsp.out] at this; exact this
      go_wp2_with fail
      refine (trim_c _ _ _ hrd.out).mono ?_
      rintro e w1 ⟨⟨s', rfl, hs'⟩, rfl⟩
      have hs2 := Lib.hid (hs' _ hrd.out)
      clear hs'
      go_wp2_with fail
      go_ret
      exact ⟨⟨_, rfl, by have := hs2.out; rwa [nv_range, hval.out] at this⟩, HBR.out⟩
end Go.Proofs.YtilginoibhfeiaaGreat
namespace Go.Proofs.YtilginoibhfeiaaGreat
open Go.RowKit

/-- Is anything lost? -/
def gone (N k : Nat) : Bool := decide (N % 2 ^ k ≠ 0)
def goneD (N i : Nat) : Bool := decide (N % 4294967296 ^ i ≠ 0)
theorem goneD_zero (N : Nat) : goneD N 0 = false := by unfold goneD; simp [Nat.mod_one]
theorem goneD_next (N i x : Nat) (hx : N / 4294967296 ^ i % 4294967296 = x) : goneD N (i + 1) = (goneD N i || decide (x ≠ 0)) := by
  unfold goneD
  rw [Bool.eq_iff_iff]
  simp only [Bool.or_eq_true, decide_eq_true_eq]
  rw [lost_digit, hx]
theorem gone_all (N q r x : Nat) (hr : r < 32) (hx : N / 4294967296 ^ q % 4294967296 = x) (k : Nat) (hk : 4294967296 ^ q * 2 ^ r = 2 ^ k) : gone N k = (goneD N q || decide (x % 2 ^ r ≠ 0)) := by
  unfold gone goneD
  rw [Bool.eq_iff_iff]
  simp only [Bool.or_eq_true, decide_eq_true_eq]
  rw [← hk, lost_part N q r hr, hx]
theorem dg_lt (N : Nat) : N < 4294967296 ^ (dg N).length := by
  have := nv_lt (dg N) (dg_dig N)
  rwa [nv_dg] at this
/-- The low bits of a word. -/
theorem and_low_u32 (x r : Nat) (hx : x < 4294967296) (hr : r < 32) : bits .and .u32 (x : Int) (IntKind.u32.wrap (IntKind.u32.wrap (1 * 2 ^ r) - 1)) = ((x % 2 ^ r : Nat) : Int) := by
  have h1 : (2 : Nat) ^ r ≤ 2 ^ 31 := pow2_le r 31 (by omega)
  have hp := Nat.two_pow_pos r
  have e : IntKind.u32.wrap (IntKind.u32.wrap (1 * 2 ^ r) - 1) = ((2 ^ r - 1 : Nat) : Int) := by
    have e1 : ((2 : Int) ^ r) = ((2 ^ r : Nat) : Int) := by push_cast; rfl
    rw [Int.one_mul, e1]
    generalize (2 : Nat) ^ r = p at *
    rw [IntKind.wrap_u32, IntKind.wrap_u32]
    omega
  rw [e]
  have h2 : (BitVec.ofInt 32 (x : Int)).toNat = x := by
    rw [BitVec.ofInt_natCast, BitVec.toNat_ofNat]; exact Nat.mod_eq_of_lt (by omega)
  have h3 : (BitVec.ofInt 32 ((2 ^ r - 1 : Nat) : Int)).toNat = 2 ^ r - 1 := by
    rw [BitVec.ofInt_natCast, BitVec.toNat_ofNat]; exact Nat.mod_eq_of_lt (by omega)
  show IntKind.u32.wrap ((BitVec.ofInt 32 (x : Int) &&& BitVec.ofInt 32 ((2 ^ r - 1 : Nat) : Int)).toNat : Int) = _
  rw [BitVec.toNat_and, h2, h3, Nat.and_two_pow_sub_one_eq_mod, IntKind.wrap_u32]
  have : x % 2 ^ r ≤ x := Nat.mod_le _ _
  omega
/-- Two words put together. -/
theorem or_high_u64 (x y : Nat) (hx : x < 4294967296) (hy : y < 4294967296) : bits .or .u64 (x : Int) (IntKind.u64.wrap ((y : Int) * 4294967296)) = ((x + 4294967296 * y : Nat) : Int) := by
  have e : IntKind.u64.wrap ((y : Int) * 4294967296) = ((y * 2 ^ 32 : Nat) : Int) := by rw [IntKind.wrap_u64]; omega
  rw [e]
  have h2 : (BitVec.ofInt 64 (x : Int)).toNat = x := by
    rw [BitVec.ofInt_natCast, BitVec.toNat_ofNat]; exact Nat.mod_eq_of_lt (by omega)
  have h3 : (BitVec.ofInt 64 ((y * 2 ^ 32 : Nat) : Int)).toNat = y * 2 ^ 32 := by
    rw [BitVec.ofInt_natCast, BitVec.toNat_ofNat]; exact Nat.mod_eq_of_lt (by omega)
  show IntKind.u64.wrap ((BitVec.ofInt 64 (x : Int) ||| BitVec.ofInt 64 ((y * 2 ^ 32 : Nat) : Int)).toNat : Int) = _
  rw [BitVec.toNat_or, h2, h3, Nat.or_comm, or_parts y x 32 (by omega), IntKind.wrap_u64]
  omega
theorem castr (u v r : Nat) : (((u + 4294967296 * v) / 2 ^ r % 4294967296 : Nat) : Int) = ((u : Int) + 4294967296 * v) / 2 ^ r % 4294967296 := by
  have e : (((4294967296 : Nat) : Int)) = 4294967296 := rfl
  have e2 : (((2 : Nat) : Int)) = 2 := rfl
  rw [Int.natCast_emod, Int.natCast_ediv, Int.natCast_pow, Int.natCast_add, Int.natCast_mul, e, e2]
theorem castr0 (u r : Nat) : (((u + 4294967296 * 0) / 2 ^ r % 4294967296 : Nat) : Int) = (u : Int) / 2 ^ r % 4294967296 := by rw [castr]; simp
theorem bne_cast (y : Nat) : ((y : Int) != 0) = decide (y ≠ 0) := by by_cases h : y = 0 <;> simp [h]
theorem low_mask (r : Nat) (hr : r < 32) : ((2 : Int) ^ r - 1) % 4294967296 = IntKind.u32.wrap (IntKind.u32.wrap (1 * 2 ^ r) - 1) := by
  have h1 : (2 : Nat) ^ r ≤ 2 ^ 31 := pow2_le r 31 (by omega)
  have hp := Nat.two_pow_pos r
  have e1 : ((2 : Int) ^ r) = ((2 ^ r : Nat) : Int) := by push_cast; rfl
  rw [Int.one_mul, e1]
  generalize (2 : Nat) ^ r = p at *
  rw [IntKind.wrap_u32, IntKind.wrap_u32]
  omega
set_option maxRecDepth 100000 in
set_option maxHeartbeats 1000000 in
theorem right_r (s : Value) (N : Nat) (k : Nat) (w : World) (hs : Rd w s (dg N)) (hx : (dg N).length ≤ 1000000) (hk : k ≤ 1000000) :
    Calls Tryz.prog 172 #[s, .int .i64 k] w fun e w' => (∃ s', e = .returned (.tuple #[s', .bool (gone N k)]) ∧ Rd w' s' (dg (N / 2 ^ k))) ∧ Below w.heap.size w w' := by
  obtain ⟨i0, hi, hz0, hz1, hz2⟩ := info_parts infoU32
  have hNl := dg_lt N
  have hX0 : Hid (∀ i, (dg N).getD i 0 = N / 4294967296 ^ i % 4294967296) := fun i => dg_getD N i
  have HE : Hid ((dg N).length = 0 ↔ N = 0) := by
    show _ ↔ _
    rw [List.length_eq_zero_iff, dg_nil]
  obtain ⟨q, hq⟩ : ∃ q, q = k / 32 := ⟨_, rfl⟩
  obtain ⟨r, hr⟩ : ∃ r, r = k % 32 := ⟨_, rfl⟩
  have hr32 : r < 32 := by omega
  have hq2 : q ≤ 1000000 := by omega
  have hsp : Hid (4294967296 ^ q * 2 ^ r = 2 ^ k) := by rw [hq, hr]; exact shift_split' k
  have tq : (k : Int).tdiv 32 = (q : Int) := by rw [Int.tdiv_eq_ediv_of_nonneg (by omega)]; omega
  have tr : (k : Int).tmod 32 = (r : Int) := by rw [Int.tmod_eq_emod_of_nonneg (by omega)]; omega
  by_cases hge : 32 * (dg N).length ≤ k
  · have hlt : N < 2 ^ k := by
      refine Nat.lt_of_lt_of_le hNl ?_
      rw [show (4294967296 : Nat) = 2 ^ 32 from rfl, ← Nat.pow_mul]
      exact pow2_le _ _ hge
    have E1 : Hid (N / 2 ^ k = 0) := Nat.div_eq_of_lt hlt
    have E2 : Hid (gone N k = decide (0 < (dg N).length)) := by
      show _ = _
      unfold gone
      rw [Nat.mod_eq_of_lt hlt, decide_eq_decide]
      have := HE.out
      omega
    obtain ⟨A, ca, rfl⟩ := hs.form
    obtain ⟨n, hn⟩ : ∃ n, (dg N).length = n := ⟨_, rfl⟩
    rw [hn] at E2 hx hge ⊢
    clear hs hX0 hNl hq hr tq tr HE hlt hn
    have w1 : (32 : Int) * n ≤ k := by omega
    go_enter Tryz.func172, Tryz.ntmps172
    go_wp2_with fail
    go_ret2
    exact ⟨⟨_, by rw [E2.out]; rfl, by rw [E1.out, dg_zero]; exact Rd.nil _⟩, Below.refl _ _⟩
  · obtain ⟨hd, ⟨rfl, h0⟩ | ⟨b, o, cap, rfl, h1, h2, h3, h4⟩⟩ := hs
    · exfalso; rw [h0] at hge; exact hge (Nat.zero_le _)
    have RX : Hid (∀ i, i < (dg N).length → w.cell? ⟨b, o + i, none⟩ = some (.int .u32 ((N / 4294967296 ^ i % 4294967296 : Nat) : Int))) := fun i hi => by
      have := h4 i hi
      rwa [show (dg N)[i] = N / 4294967296 ^ i % 4294967296 from by rw [← hX0.out]; simp [List.getD, hi]] at this
    have XH : Hid (∀ i, (dg N).length ≤ i → N / 4294967296 ^ i % 4294967296 = 0) := fun i hi => by rw [← hX0.out, getD_hi _ _ hi]
    clear h4 hd HE hX0
    obtain ⟨n, hn⟩ : ∃ n, (dg N).length = n := ⟨_, rfl⟩
    have hm := run_make_row (P := Tryz.prog) 63 182 i0 (.int .u32 0) Tryz.underlying63 hi hz0 hz1 rfl .i64 .i64 (n - q) (by rw [hz2]; omega) (by omega)
    rw [hn] at RX XH h1 hx hge hNl ⊢
    clear hn
    have hqn : q < n := by omega
    obtain ⟨m, hmn⟩ : ∃ m, n - q = m := ⟨_, rfl⟩
    rw [hmn] at hm
    obtain rfl : n = q + m := by omega
    have HNL := Lib.hid hNl
    have g1 : ¬ (32 * ((q : Int) + m) ≤ k) := by omega
    have g2 : (q : Int) ≤ (q : Int) + m := by omega
    have g3 : (0 : Int) ≤ (q : Int) := by omega
    have g4 : q ≤ cap := by omega
    have g5 : (q : Int) ≤ (cap : Int) := by omega
    have g6 : (q : Int) + m ≤ (cap : Int) := by omega
    clear hge hq hr hmn hNl
    go_enter Tryz.func172, Tryz.ntmps172
    go_wp2_with fail
    clear g1 g2 g6
    go_loopw [6, 26] (fun t6 t26 wr => ∃ i : Nat, i ≤ q ∧ t26 = .int .i64 i ∧ t6 = .bool (goneD N i) ∧ w = wr) (fun _ t26 _ => q - (intOf t26).toNat)
    case atStart => exact ⟨0, Nat.zero_le _, rfl, by rw [goneD_zero], rfl⟩
    case round =>
      obtain ⟨i, hiq, rfl, rfl, rfl⟩ := hrel
      by_cases hlt : i < q
      · have cA := RX.out i (by omega)
        have k0 : (0 : Int) ≤ (i : Int) := by omega
        have k1 : (i : Int) < (q : Int) := by omega
        obtain ⟨x, hx1⟩ : ∃ x, N / 4294967296 ^ i % 4294967296 = x := ⟨_, rfl⟩
        have HG := Lib.hid (goneD_next N i x hx1)
        rw [hx1] at cA
        clear hx1
        obtain ⟨L, hL⟩ : ∃ L, goneD N i = L := ⟨_, rfl⟩
        rw [hL] at HG ⊢
        clear hL
        by_cases hx0 : x = 0
        · subst hx0
          cases L
          · go_wp2_with fail
            exact ⟨⟨i + 1, by omega, by first | rfl | go_num, by rw [HG.out]; rfl, trivial⟩, by simp [intOf]; omega⟩
          · go_wp2_with fail
            exact ⟨⟨i + 1, by omega, by first | rfl | go_num, by rw [HG.out]; rfl, trivial⟩, by simp [intOf]; omega⟩
        · have hx1 : ¬ ((x : Int) = 0) := by omega
          cases L
          · go_wp2_with fail
            exact ⟨⟨i + 1, by omega, by first | rfl | go_num, by rw [HG.out]; simp [hx0], trivial⟩, by simp [intOf]; omega⟩
          · go_wp2_with fail
            exact ⟨⟨i + 1, by omega, by first | rfl | go_num, by rw [HG.out]; rfl, trivial⟩, by simp [intOf]; omega⟩
      · obtain rfl : i = q := by omega
        have k1 : ¬ (i : Int) < (i : Int) := by omega
        have cA := RX.out i (by omega)
        obtain ⟨x, hx1⟩ : ∃ x, N / 4294967296 ^ i % 4294967296 = x := ⟨_, rfl⟩
        have HG := Lib.hid (gone_all N i r x hr32 hx1 k hsp.out)
        have hxl : x < 4294967296 := by rw [← hx1]; exact Nat.mod_lt _ (by decide)
        rw [hx1] at cA
        have hal : bits .and .u32 (x : Int) ((2 ^ r - 1) % 4294967296) = ((x % 2 ^ r : Nat) : Int) := by
          rw [← and_low_u32 x r hxl hr32, low_mask r hr32]
        obtain ⟨y, hy⟩ : ∃ y, x % 2 ^ r = y := ⟨_, rfl⟩
        rw [hy] at hal HG
        clear hx1 hy
        have g7 : (i : Int) ≤ (i : Int) + m := by omega
        have g8 : (i : Int) + m - i = m := by omega
        have g9 : i + m - i = m := by omega
        have g10 : (0 : Int) < (m : Int) := by omega
        obtain ⟨D, hD⟩ : ∃ D : Nat → Nat, D = fun j => (N / 4294967296 ^ (i + j) % 4294967296 + 4294967296 * (N / 4294967296 ^ (i + j + 1) % 4294967296)) / 2 ^ r % 4294967296 := ⟨_, rfl⟩
        have HD : Hid (∀ j, D j = (N / 4294967296 ^ (i + j) % 4294967296 + 4294967296 * (N / 4294967296 ^ (i + j + 1) % 4294967296)) / 2 ^ r % 4294967296) := fun j => by rw [hD]
        have HQ : Hid (nvf D m = N / 2 ^ k) := by
          show _ = _
          have := right_val N i r (i + m) HNL.out (by omega) hr32 D (fun j _ => HD.out j)
          rwa [show i + m - i = m by omega, hsp.out] at this
        clear hD
        obtain ⟨L, hL⟩ : ∃ L, goneD N i = L := ⟨_, rfl⟩
        rw [hL] at HG ⊢
        clear hL
        have HM := Lib.hid hm
        clear hlt
        cases L <;> (
          go_wp2_with fail
          clear hm hal g8 g9
          have hr0 := Lib.hid (World.rowIs_made w (.int .u32 0) m 182)
          go_loopw [59] (fun t59 wr => ∃ j : Nat, j ≤ m ∧ t59 = .int .i64 j ∧ Hid (wr.rowIs w.heap.size 182 m (fun p => .int .u32 ((if p < j then D p else 0 : Nat) : Int))) ∧ Hid (Below w.heap.size w wr)) (fun t59 _ => m - (intOf t59).toNat)
          case atStart => exact ⟨0, Nat.zero_le _, rfl, hr0.out.congr (fun i _ => by simp), below_by⟩
          case round =>
            obtain ⟨j, hj, rfl, HR, HB⟩ := hrel
            have hbs := HB.out.size
            by_cases hjm : j < m
            · have cB := (HB.out.cell (p := ⟨b, o + (i + j), none⟩) h3).trans (RX.out (i + j) (by omega))
              rw [← Nat.add_assoc] at cB
              have hd1 := HD.out j
              have hck := HR.out.cell hjm
              have hfk := HR.out.frozen
              have nb : ¬ b = w.heap.size := by omega
              have k0 : (0 : Int) ≤ (j : Int) := by omega
              have k1 : (j : Int) < (m : Int) := by omega
              have HST : Hid (∀ v : Nat, v = D j → (wr.setCell ⟨w.heap.size, j, none⟩ (.int .u32 (v : Int))).rowIs w.heap.size 182 m (fun p => .int .u32 ((if p < j + 1 then D p else 0 : Nat) : Int)) ∧ Below w.heap.size w (wr.setCell ⟨w.heap.size, j, none⟩ (.int .u32 (v : Int)))) := fun v hv => by
                refine ⟨(HR.out.set j _).congr (fun p _ => ?_), HB.out.setCell (Nat.le_refl _) _⟩
                by_cases e : p = j
                · subst e; rw [if_pos rfl, if_pos (Nat.lt_succ_self _), hv]
                · rw [if_neg e]
                  by_cases e2 : p < j
                  · rw [if_pos e2, if_pos (by omega)]
                  · rw [if_neg e2, if_neg (by omega)]
              obtain ⟨u, hu⟩ : ∃ u, N / 4294967296 ^ (i + j) % 4294967296 = u := ⟨_, rfl⟩
              have hul : u < 4294967296 := by rw [← hu]; exact Nat.mod_lt _ (by decide)
              rw [hu] at cB hd1
              by_cases hj1 : j + 1 < m
              · have cC := (HB.out.cell (p := ⟨b, o + (i + (j + 1)), none⟩) h3).trans (RX.out (i + (j + 1)) (by omega))
                rw [← Nat.add_assoc] at cC
                rw [← Nat.add_assoc i j 1] at cC
                obtain ⟨v, hv⟩ : ∃ v, N / 4294967296 ^ (i + j + 1) % 4294967296 = v := ⟨_, rfl⟩
                have hvl : v < 4294967296 := by rw [← hv]; exact Nat.mod_lt _ (by decide)
                rw [hv] at cC hd1
                have k2 : (j : Int) + 1 < (m : Int) := by omega
                have k3 : (0 : Int) ≤ (j : Int) + 1 := by omega
                have ho := or_high_u64 u v hul hvl
                rw [show IntKind.u64.wrap ((v : Int) * 4294967296) = (v : Int) * 4294967296 by rw [IntKind.wrap_u64]; omega] at ho
                have hsv := HST.out _ hd1.symm
                rw [castr] at hsv
                have HSV := Lib.hid hsv
                clear hu hv hd1 HST hsv
                go_wp2_with fail
                exact ⟨⟨j + 1, by omega, by first | rfl | go_num, HSV.out.1, HSV.out.2⟩, by simp [intOf]; omega⟩
              · have hv : N / 4294967296 ^ (i + j + 1) % 4294967296 = 0 := XH.out _ (by omega)
                rw [hv] at hd1
                have k2 : ¬ (j : Int) + 1 < (m : Int) := by omega
                have hsv := HST.out _ hd1.symm
                rw [castr0] at hsv
                have HSV := Lib.hid hsv
                clear hu hv hd1 HST hsv
                go_wp2_with fail
                exact ⟨⟨j + 1, by omega, by first | rfl | go_num, HSV.out.1, HSV.out.2⟩, by simp [intOf]; omega⟩
            · obtain rfl : j = m := by omega
              have k1 : ¬ (j : Int) < (j : Int) := by omega
              have hrd := Lib.hid (Rd.row HR.out (by omega) (fun p hp => by rw [if_pos hp, HD.out]; exact Nat.mod_lt _ (by decide)))
              have hval : Hid (nv ((List.range j).map (fun p => if p < j then D p else 0)) = N / 2 ^ k) := by
                show _ = _
                rw [nv_range, nvf_congr (g := D) j (fun p hp => if_pos hp)]
                exact HQ.out
              go_wp2_with fail
              refine (trim_c _ _ _ hrd.out).mono ?_
              rintro e w1 ⟨⟨s', rfl, hs'⟩, rfl⟩
              have hs2 := Lib.hid (hs' _ hrd.out)
              clear hs'
              go_wp2_with fail
              go_ret2
              exact ⟨⟨_, by rw [HG.out]; first | rfl | exact congrArg _ (by first | rfl | (rw [Bool.false_or, ← bne_cast]; rfl)), by have := hs2.out; rwa [hval.out] at this⟩, HB.out⟩)
end Go.Proofs.YtilginoibhfeiaaGreat
namespace Go.Proofs.YtilginoibhfeiaaGreat
open Go.RowKit

/-- What is known of a value that an operation yields: it stays so while older blocks stay as they are. -/
structure Ghost where
  holds : World → Value → Prop
  stable : ∀ {w w' : World} {v : Value}, holds w v → Below w.heap.size w w' → holds w' v
  own : Value → Option Nat := fun _ => none
  lt : ∀ {w : World} {v : Value} {b : Nat}, holds w v → own v = some b → b < w.heap.size := by intro _ _ _ _ h; cases h
/-- A world that the region may pass: what was there stands, and what is known of the values N (by the operations' numbers) is so. -/
structure Inh (w0 : World) (fr : Nat → Option Ghost) (g : Nat → Value) (N : List Nat) where
  w : World
  low : Below w0.heap.size w0 w
  has : ∀ j ∈ N, ∀ f, fr j = some f → f.holds w (g j)
theorem Inh.step {w0 : World} {fr : Nat → Option Ghost} {g : Nat → Value} {N : List Nat} (p : Inh w0 fr g N) {w' : World} (h : Below p.w.heap.size p.w w') : ∃ p' : Inh w0 fr g N, w' = p'.w := by
  refine ⟨⟨w', ⟨h.os.trans p.low.os, h.tape.trans p.low.tape, h.output.trans p.low.output, Nat.le_trans p.low.size h.size, fun k hk => ?_⟩, fun j hj f hf => ?_⟩, rfl⟩
  · rw [h.block k (Nat.lt_of_lt_of_le hk p.low.size)]; exact p.low.block k hk
  · exact f.stable (p.has j hj f hf) h
section
variable {P : Program} {ops : Array Oper} {w0 : World} {fr : Nat → Option Ghost} {needs : Nat → List Nat} {vals : List Value} {g : Nat → Value} {Q : Act → Prop}

/-- The value that operation k lays. -/
def valH (fr : Nat → Option Ghost) (vals : List Value) (g : Nat → Value) (k : Nat) : Value := match fr k with | some _ => g k | none => vals.getD k undef
/-! ### What stands in the slots -/
/-- The frame a is a0 but for the slots of those of the first n operations that are listed. -/
structure HoldsH (ops : Array Oper) (fr : Nat → Option Ghost) (vals : List Value) (g : Nat → Value) (n : Nat) (a0 : Act) (L : Nat → Prop) (a : Act) : Prop where
  defers : a.defers = a0.defers
  size : a.tmps.size = a0.tmps.size
  done : ∀ k o d, k < n → ops[k]? = some o → L k → o.dst = some d → d < a0.tmps.size → a.tmps[d]? = some (valH fr vals g k)
  rest : ∀ d, (∀ k o, k < n → ops[k]? = some o → L k → o.dst ≠ some d) → a.tmps[d]? = a0.tmps[d]?
/-- No two of the first n lay into one slot. -/
def dstsH (ops : Array Oper) (n : Nat) : Bool :=
  (List.range n).all fun i => (List.range i).all fun j => match ops[i]?, ops[j]? with
    | some x, some y => x.dst.isNone || x.dst != y.dst
    | _, _ => true
theorem dstsH_spec {n : Nat} (h : dstsH ops n = true) {i j : Nat} {x y : Oper} (hi : i < n) (hj : j < n) (hne : i ≠ j) (hx : ops[i]? = some x) (hy : ops[j]? = some y) {d : Tmp} (h1 : x.dst = some d) (h2 : y.dst = some d) : False := by
  rcases Nat.lt_or_ge j i with hlt | hge
  · have := List.all_eq_true.1 (List.all_eq_true.1 h i (List.mem_range.2 hi)) j (List.mem_range.2 hlt)
    simp [hx, hy, h1, h2] at this
  · have hlt : i < j := by omega
    have := List.all_eq_true.1 (List.all_eq_true.1 h j (List.mem_range.2 hj)) i (List.mem_range.2 hlt)
    simp [hx, hy, h1, h2] at this
theorem HoldsH.put {n : Nat} {a0 a : Act} {L L' : Nat → Prop} (h : HoldsH ops fr vals g n a0 L a) (hB : dstsH ops n = true) {i : Nat} {o : Oper} (hi : i < n) (ho : ops[i]? = some o) (hL : ∀ k, L' k ↔ (L k ∨ k = i)) (hn : ¬ L i) :
    HoldsH ops fr vals g n a0 L' (a.put o.dst (valH fr vals g i)) := by
  refine ⟨?_, ?_, ?_, ?_⟩
  · cases o.dst <;> exact h.defers
  · cases hd : o.dst with
    | none => exact h.size
    | some d => simp only [Act.put, Array.size_setIfInBounds]; exact h.size
  · intro k x d hk hx hLk hd hlt
    by_cases hki : k = i
    · subst hki
      obtain rfl : o = x := Option.some.inj (ho.symm.trans hx)
      rw [hd]; simp only [Act.put]
      rw [Array.getElem?_setIfInBounds_self_of_lt (by rw [h.size]; exact hlt)]
    · have hLk' : L k := by rcases (hL k).1 hLk with h' | h'; exact h'; exact absurd h' hki
      have := h.done k x d hk hx hLk' hd hlt
      cases hod : o.dst with
      | none => exact this
      | some d' =>
        have hne : d' ≠ d := fun e => dstsH_spec hB hk hi hki hx ho hd (by rw [hod, e])
        simp only [Act.put]; rw [Array.getElem?_setIfInBounds_ne hne]; exact this
  · intro d hd
    have h1 := h.rest d fun k x hk hx hLk => hd k x hk hx ((hL k).2 (.inl hLk))
    cases hod : o.dst with
    | none => exact h1
    | some d' =>
      have hne : d' ≠ d := fun e => hd i o hi ho ((hL i).2 (.inr rfl)) (by rw [hod, e])
      simp only [Act.put]; rw [Array.getElem?_setIfInBounds_ne hne]; exact h1
theorem HoldsH.nil {n : Nat} {a0 : Act} {L : Nat → Prop} (hL : ∀ k, k < n → ¬ L k) : HoldsH ops fr vals g n a0 L a0 :=
  ⟨rfl, rfl, fun k _ _ hk _ hLk _ _ => absurd hLk (hL k hk), fun _ _ => rfl⟩
theorem HoldsH.congr {n : Nat} {a0 a : Act} {L L' : Nat → Prop} (h : HoldsH ops fr vals g n a0 L a) (hL : ∀ k, k < n → (L' k ↔ L k)) : HoldsH ops fr vals g n a0 L' a :=
  ⟨h.defers, h.size, fun k o d hk ho hLk hd hlt => h.done k o d hk ho ((hL k hk).1 hLk) hd hlt, fun d hd => h.rest d fun k o hk ho hLk => hd k o hk ho ((hL k hk).2 hLk)⟩
/-- The blocks' numbers turned where nothing listed leans on them. -/
theorem HoldsH.turn {n : Nat} {a0 a : Act} {L : Nat → Prop} {g' : Nat → Value} (h : HoldsH ops fr vals g n a0 L a) (hg : ∀ k, k < n → L k → g' k = g k) : HoldsH ops fr vals g' n a0 L a :=
  ⟨h.defers, h.size, fun k o d hk ho hLk hd hlt => by
    rw [h.done k o d hk ho hLk hd hlt]; unfold valH; rw [hg k hk hLk], h.rest⟩
theorem HoldsH.same {n : Nat} {a0 a a' : Act} {L : Nat → Prop} (h : HoldsH ops fr vals g n a0 L a) (h' : HoldsH ops fr vals g n a0 L a') : a = a' := by
  have hd := h.defers.trans h'.defers.symm
  have ht : a.tmps = a'.tmps := by
    apply Array.ext_getElem?
    intro d
    by_cases hex : ∃ k o, k < n ∧ ops[k]? = some o ∧ L k ∧ o.dst = some d
    · obtain ⟨k, o, hk, ho, hL, hod⟩ := hex
      by_cases hlt : d < a0.tmps.size
      · rw [h.done k o d hk ho hL hod hlt, h'.done k o d hk ho hL hod hlt]
      · have n1 : a.tmps.size ≤ d := by rw [h.size]; exact Nat.le_of_not_lt hlt
        have n2 : a'.tmps.size ≤ d := by rw [h'.size]; exact Nat.le_of_not_lt hlt
        rw [Array.getElem?_eq_none n1, Array.getElem?_eq_none n2]
    · have hno : ∀ k o, k < n → ops[k]? = some o → L k → o.dst ≠ some d := fun k o hk ho hL hod => hex ⟨k, o, hk, ho, hL, hod⟩
      rw [h.rest d hno, h'.rest d hno]
  obtain ⟨t, df⟩ := a
  obtain ⟨t', df'⟩ := a'
  simp only at ht hd
  rw [ht, hd]
/-- Two frames that stand alike in what an operation looks at. -/
theorem HoldsH.alike {n : Nat} {a0 a a' : Act} {L L' : Nat → Prop} (h : HoldsH ops fr vals g n a0 L a) (h' : HoldsH ops fr vals g n a0 L' a') {o : Oper}
    (hl : ∀ d, d ∈ o.looksAt ops → ∀ k x, k < n → ops[k]? = some x → x.dst = some d → (L k ∧ L' k)) : ∀ d, d ∈ o.looksAt ops → a.tmps[d]? = a'.tmps[d]? := by
  intro d hd
  by_cases hex : ∃ k x, k < n ∧ ops[k]? = some x ∧ x.dst = some d
  · obtain ⟨k, x, hk, hx, hxd⟩ := hex
    obtain ⟨l1, l2⟩ := hl d hd k x hk hx hxd
    by_cases hlt : d < a0.tmps.size
    · rw [h.done k x d hk hx l1 hxd hlt, h'.done k x d hk hx l2 hxd hlt]
    · have n1 : a.tmps.size ≤ d := by rw [h.size]; exact Nat.le_of_not_lt hlt
      have n2 : a'.tmps.size ≤ d := by rw [h'.size]; exact Nat.le_of_not_lt hlt
      rw [Array.getElem?_eq_none n1, Array.getElem?_eq_none n2]
  · rw [h.rest d fun k x hk hx _ hxd => hex ⟨k, x, hk, hx, hxd⟩, h'.rest d fun k x hk hx _ hxd => hex ⟨k, x, hk, hx, hxd⟩]
/-! ### Any order -/
end

/-! ### A region in its written order: the same walk -/
section
variable {P : Program} {ops : Array Oper} {w0 : World} {fr : Nat → Option Ghost} {needs : Nat → List Nat} {vals : List Value} {g : Nat → Value} {Q : Act → Prop}
end
end Go.Proofs.YtilginoibhfeiaaGreat
