/- The walks of the document's Bits, Sub2, Cmp. The walk of the document's Int64. -/
import Derived.Test.YtnoidlacjiafdaaGreatRC
import Derived.Test.YtnoidlacjiafdaaGreatBY
namespace Go.Proofs.YtnoidlacjiafdaaGreat
set_option linter.unusedSimpArgs false
set_option linter.unusedVariables false
set_option linter.unusedSimpArgs false
open Go.RowKit

/-- A whole number of the document, of whatever size. -/
def ZIs (w : World) (v : Value) (z : Int) : Prop := ∃ s, v = .agg #[.bool (decide (z < 0)), .bool false, s] ∧ Rd w s (dg z.natAbs)
theorem ZIs.below {w w' : World} {v : Value} {z : Int} (h : ZIs w v z) (hb : Below w.heap.size w w') : ZIs w' v z := by
  obtain ⟨s, hs, hr⟩ := h; exact ⟨s, hs, hr.below hb⟩
set_option maxRecDepth 100000 in
set_option maxHeartbeats 1000000 in
/-- Bits. -/
theorem bitsB_r (v : Value) (x : WI) (w : World) (hx : BigIs w v x) :
    Calls Tryz.prog 13 #[v] w fun e w' => e = .returned (.int .i64 (bl x.sz)) ∧ Below w.heap.size w w' := by
  obtain ⟨Ax, cx, rfl, hsx⟩ := hx.opened
  have HSx := Lib.hid hsx
  clear hsx hx
  cases ho : x.ov with
  | true =>
    have h0 : Hid (bl x.sz = 0) := by
      have : x.sz = 0 := by unfold WI.ov at ho; unfold WI.sz; rw [Option.isNone_iff_eq_none.1 ho]
      rw [this]; exact bl_zero
    go_enter Tryz.func13, Tryz.ntmps13
    go_wp2_with fail
    go_ret
    exact ⟨by rw [h0.out]; rfl, below_by⟩
  | false =>
    go_enter Tryz.func13, Tryz.ntmps13
    go_wp2_with fail
    refine (bits_r _ _ _ (HSx.out.below below_by)).mono ?_
    rintro e w1 ⟨rfl, rfl⟩
    go_wp2_with fail
    go_ret
    exact ⟨rfl, below_by⟩
end Go.Proofs.YtnoidlacjiafdaaGreat
namespace Go.Proofs.YtnoidlacjiafdaaGreat
set_option linter.unusedSimpArgs false
open Go.RowKit

theorem or64_nat (a b : Nat) (ha : a < 18446744073709551616) (hb : b < 18446744073709551616) : bits .or .u64 (a : Int) (b : Int) = ((a ||| b : Nat) : Int) := by
  have hx : a ||| b < 2 ^ 64 := Nat.or_lt_two_pow (by omega) (by omega)
  have h1 : (BitVec.ofInt 64 (a : Int)).toNat = a := by
    rw [BitVec.ofInt_natCast, BitVec.toNat_ofNat]; exact Nat.mod_eq_of_lt (by omega)
  have h2 : (BitVec.ofInt 64 (b : Int)).toNat = b := by
    rw [BitVec.ofInt_natCast, BitVec.toNat_ofNat]; exact Nat.mod_eq_of_lt (by omega)
  show IntKind.u64.wrap ((BitVec.ofInt 64 (a : Int) ||| BitVec.ofInt 64 (b : Int)).toNat : Int) = _
  rw [BitVec.toNat_or, h1, h2, IntKind.wrap_u64]
  omega
theorem or64_zero (x : Nat) (hx : x < 4294967296) : bits .or .u64 0 (x : Int) = (x : Int) := by
  have := or64_nat 0 x (by decide) (by omega)
  rw [Nat.zero_or] at this
  exact this
set_option maxRecDepth 100000 in
set_option maxHeartbeats 1000000 in
theorem int64_main (x : WI) (A : Option Addr) (cap : Nat) (w : World) (ho : x.ov = false) (hs : Rd w (.slice A (dg x.sz).length cap) (dg x.sz)) (hl : (dg x.sz).length ≤ 2) :
    Calls Tryz.prog 84 #[.agg #[.bool x.ng, .bool false, .slice A (dg x.sz).length cap]] w fun e w' => e = .returned (.tuple #[.int .i64 x.i64.1, .bool x.i64.2]) ∧ Below w.heap.size w w' := by
  have HI := Lib.hid (x.i64_some ho)
  have RX := Lib.hid (fun i hi => hs.at' (n := (dg x.sz).length) i hi)
  have HV : Hid (nvf (fun i => (dg x.sz).getD i 0) (dg x.sz).length = x.sz) := nvf_dg _ _ (Nat.le_refl _)
  have hlt := dg_lt x.sz
  have DX : Hid (∀ i, (dg x.sz).getD i 0 < 4294967296) := getD_lt hs.1
  obtain ⟨f, hf⟩ : ∃ f : Nat → Nat, (fun i => (dg x.sz).getD i 0) = f := ⟨_, rfl⟩
  have hf' : Hid (∀ i, (dg x.sz).getD i 0 = f i) := fun i => by rw [← hf]
  rw [hf] at HV
  obtain ⟨n, hn⟩ : ∃ n, (dg x.sz).length = n := ⟨_, rfl⟩
  obtain ⟨N, hN⟩ : ∃ N, x.sz = N := ⟨_, rfl⟩
  rw [hn] at RX hl HV hlt ⊢
  rw [hN] at HI hlt HV hf' DX RX
  obtain ⟨s, hsg⟩ : ∃ s, x.ng = s := ⟨_, rfl⟩
  rw [hsg] at HI ⊢
  have hN64 : N < 18446744073709551616 := Nat.lt_of_lt_of_le hlt (by
    rw [show (18446744073709551616 : Nat) = 4294967296 ^ 2 from rfl]; exact Nat.pow_le_pow_right (by decide) hl)
  have B0 := Lib.hid (Blk.new w #[.bool s, .bool false, .slice A n cap] 52)
  have HB := Lib.hid ((Below.refl w.heap.size w).alloc (Nat.le_refl _) (.cells #[.bool s, .bool false, .slice A n cap] 52))
  clear hs hn hN hsg hf hlt
  go_enter Tryz.func84, Tryz.ntmps84
  go_wp2_with fail
  go_loopw [4, 18] (fun t4 t18 wr => ∃ i : Nat, i ≤ n ∧ t18 = .int .i64 i ∧ t4 = .int .u64 (nvf f i : Nat) ∧ Hid (Below w.heap.size w wr) ∧ Hid (Blk wr w.heap.size #[.bool s, .bool false, .slice A n cap] 52)) (fun _ t18 _ => n - (intOf t18).toNat)
  case atStart => exact ⟨0, Nat.zero_le _, rfl, rfl, HB, B0⟩
  case round =>
    obtain ⟨i, hi, rfl, rfl, hb, q0⟩ := hrel
    by_cases hlt : i < n
    · obtain ⟨b, o, rfl, hbb, cA, uA⟩ := RX.out i hlt
      have cA' := (hb.out.cell (p := ⟨b, o + i, none⟩) hbb).trans cA
      rw [hf'.out] at cA' uA
      rcases i with _ | _ | i
      · have h0 := or64_zero (f 0) uA
        have HN : Hid (nvf f 1 = f 0) := by show 0 + 4294967296 ^ 0 * f 0 = f 0; omega
        have k1 : (0 : Int) < (n : Int) := by omega
        have hn1 : Hid (1 ≤ n) := by show 1 ≤ n; omega
        have e0 : nvf f 0 = 0 := rfl
        rw [e0]
        obtain ⟨v, hv⟩ : ∃ v, f 0 = v := ⟨_, rfl⟩
        rw [hv] at h0 HN cA' uA
        rw [Nat.add_zero] at cA'
        clear cA hv e0 hi hlt
        go_wp2_with fail
        exact ⟨⟨1, hn1.out, by first | rfl | go_num, by rw [HN.out], hb, q0⟩, by simp [intOf]; omega⟩
      · rw [Nat.zero_add] at *
        have hu : nvf f 1 < 4294967296 := by
          have := nvf_lt f (fun k => by rw [← hf'.out]; exact DX.out k) 1
          simpa using this
        have h0 := or_high_u64 (nvf f 1) (f 1) hu uA
        rw [show IntKind.u64.wrap (((f 1 : Nat) : Int) * 4294967296) = ((f 1 : Nat) : Int) * 4294967296 by rw [IntKind.wrap_u64]; omega] at h0
        have HN : Hid (nvf f 2 = nvf f 1 + 4294967296 * f 1) := by show nvf f 1 + 4294967296 ^ 1 * f 1 = _; omega
        have k1 : (1 : Int) < (n : Int) := by omega
        have hn1 : Hid (2 ≤ n) := by show 2 ≤ n; omega
        obtain ⟨v, hv⟩ : ∃ v, f 1 = v := ⟨_, rfl⟩
        obtain ⟨u, hu1⟩ : ∃ u, nvf f 1 = u := ⟨_, rfl⟩
        rw [hv] at h0 HN cA' uA
        rw [hu1] at h0 HN hu ⊢
        clear cA hv hu1 hi hlt
        go_wp2_with fail
        exact ⟨⟨2, hn1.out, by first | rfl | go_num, by rw [HN.out, Int.natCast_add, Int.natCast_mul]; rfl, hb, q0⟩, by simp [intOf]; omega⟩
      · omega
    · obtain rfl : i = n := by omega
      have k1 : ¬ (i : Int) < (i : Int) := by omega
      have e0 : wr.cell? ⟨w.heap.size, 0, none⟩ = some (.bool s) := q0.out.cell (i := 0) rfl
      rw [HV.out]
      cases s with
      | true =>
        by_cases hbig : N ≤ 9223372036854775808
        · have HR : Hid (x.i64 = (-(N : Int), true)) := by
            show _ = _
            rw [HI.out, if_pos (by first | omega | (simp; omega))]; rfl
          have c1 : ¬ (9223372036854775808 : Int) < (N : Int) := by omega
          have c2 : IntKind.i64.wrap (IntKind.u64.wrap (-(N : Int))) = -(N : Int) := by rw [IntKind.wrap_u64, IntKind.wrap_i64]; omega
          have c3 : wrap64 (IntKind.u64.wrap (-(N : Int))) = -(N : Int) := by rw [IntKind.wrap_u64]; unfold wrap64; omega
          clear hbig
          go_wp2_with fail
          go_ret2
          exact ⟨by rw [HR.out]; rfl, hb.out⟩
        · have HR : Hid (x.i64 = (0, false)) := by
            show _ = _
            rw [HI.out, if_neg (by first | omega | (simp; omega))]
          have c1 : (9223372036854775808 : Int) < (N : Int) := by omega
          clear hbig
          go_wp2_with fail
          go_ret2
          exact ⟨by rw [HR.out]; rfl, hb.out⟩
      | false =>
        by_cases hbig : N < 9223372036854775808
        · have HR : Hid (x.i64 = ((N : Int), true)) := by
            show _ = _
            rw [HI.out, if_pos (by first | omega | (simp; omega))]; rfl
          have c1 : ¬ (9223372036854775808 : Int) ≤ (N : Int) := by omega
          have c3 : wrap64 (N : Int) = (N : Int) := by unfold wrap64; omega
          clear hbig
          go_wp2_with fail
          go_ret2
          exact ⟨by rw [HR.out]; rfl, hb.out⟩
        · have HR : Hid (x.i64 = (0, false)) := by
            show _ = _
            rw [HI.out, if_neg (by simp; omega)]
          have c1 : (9223372036854775808 : Int) ≤ (N : Int) := by omega
          clear hbig
          go_wp2_with fail
          go_ret2
          exact ⟨by rw [HR.out]; rfl, hb.out⟩
set_option maxRecDepth 100000 in
set_option maxHeartbeats 1000000 in
/-- Int64. -/
theorem int64_r (v : Value) (x : WI) (w : World) (hv : BigIs w v x) :
    Calls Tryz.prog 84 #[v] w fun e w' => e = .returned (.tuple #[.int .i64 x.i64.1, .bool x.i64.2]) ∧ Below w.heap.size w w' := by
  obtain ⟨A, cap, rfl, hs⟩ := hv.opened
  cases ho : x.ov with
  | true =>
    have HR := Lib.hid (WI.i64_over x ho)
    clear hs hv
    go_enter Tryz.func84, Tryz.ntmps84
    go_wp2_with fail
    go_ret2
    exact ⟨by rw [HR.out]; rfl, below_by⟩
  | false =>
    by_cases hl : (dg x.sz).length ≤ 2
    · exact int64_main x A cap w ho hs hl
    · have HR : Hid (x.i64 = (0, false)) := by
        show _ = _
        rw [x.i64_some ho, if_neg]
        have : ¬ x.sz < 4294967296 ^ 2 := fun h => hl (dg_len_le _ _ h)
        omega
      have hl2 : (2 : Int) < ((dg x.sz).length : Int) := by omega
      clear hs hv hl
      go_enter Tryz.func84, Tryz.ntmps84
      go_wp2_with fail
      go_ret2
      exact ⟨by rw [HR.out]; rfl, below_by⟩
end Go.Proofs.YtnoidlacjiafdaaGreat
