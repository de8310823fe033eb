/- The walks of the document's Isqrt, Up, MulDiv, MulDivUp. -/
import Derived.Test.YtnoidlacjiafdaaGreatQA
import Derived.Test.YtnoidlacjiafdaaGreatRF
import Derived.Test.YtnoidlacjiafdaaGreatBY
namespace Go.Proofs.YtnoidlacjiafdaaGreat
set_option linter.unusedSimpArgs false
set_option linter.unusedVariables false
open Go.RowKit

theorem isqrt_plain (m : Nat) (h : m ≤ 9223372036854775807) : (WI.of (m : Int)).sqrt = (WI.of (rt m : Nat), 0) ∧ (WI.of ((rt m : Nat) : Int)).i64 = (((rt m : Nat) : Int), true) := by
  have h1 := rt_le m
  refine ⟨WI.of_sqrt m (lim_small (by omega)), ?_⟩
  rw [WI.of_i64 _ (by rw [Int.natAbs_natCast]; exact lim_small (by omega)), if_pos (by omega)]
set_option maxRecDepth 100000 in
set_option maxHeartbeats 1000000 in
/-- Isqrt. -/
theorem isqrtB_r (n : Int) (h1 : -9223372036854775808 ≤ n) (h2 : n ≤ 9223372036854775807) (w : World) :
    Calls Tryz.prog 127 #[.int .i64 n] w fun e w' => e = .returned (.int .i64 ((rt n.toNat : Nat) : Int)) ∧ Below w.heap.size w w' := by
  by_cases hn : n < 1
  · rw [show n.toNat = 0 by omega, rt_0]
    go_enter Tryz.func127, Tryz.ntmps127
    go_wp2_with fail
    go_ret
    exact ⟨rfl, below_by⟩
  · obtain ⟨m, rfl⟩ : ∃ m : Nat, n = m := ⟨n.toNat, by omega⟩
    rw [Int.toNat_natCast]
    obtain ⟨hs, hi⟩ := isqrt_plain m (by omega)
    obtain ⟨y, hy⟩ : ∃ y, WI.of ((rt m : Nat) : Int) = y := ⟨_, rfl⟩
    rw [hy] at hs hi
    have HS := Lib.hid hs
    have HI := Lib.hid hi
    obtain ⟨r, hr⟩ : ∃ r : Nat, rt m = r := ⟨_, rfl⟩
    rw [hr] at HI ⊢
    clear hs hi hy hr
    go_enter Tryz.func127, Tryz.ntmps127
    go_wp2_with fail
    refine (of_r _ h1 h2 _).mono ?_
    rintro e w1 ⟨⟨v, rfl, hv⟩, hb1⟩
    go_wp2_with fail
    refine Calls.mono (sqrtB_r _ _ _ hv) ?_
    rw [HS.out]
    rintro e w2 ⟨⟨v2, rfl, hv2⟩, hb2⟩
    obtain ⟨A, c, rfl, hs2⟩ := hv2.opened
    have HS2 := Lib.hid hs2
    have HB2 : Hid (Below w.heap.size w w2) := hb1.trans (hb2.mono hb1.size)
    clear hb1 hb2 hv hv2 hs2
    go_wp2_with fail
    refine (int64_r _ y _ (BigIs.mk (HS2.out.below below_by))).mono ?_
    rw [HI.out]
    rintro e w3 ⟨rfl, hb3⟩
    have HB3 : Hid (Below w.heap.size w w3) := (HB2.out.alloc HB2.out.size _).trans (hb3.mono (by have := HB2.out.size; simp; omega))
    clear hb3
    go_wp2_with fail
    go_ret
    exact ⟨rfl, HB3.out⟩
set_option maxRecDepth 100000 in
set_option maxHeartbeats 1000000 in
/-- Up. -/
theorem upB_r (n : Int) (h1 : -9223372036854775808 ≤ n) (h2 : n ≤ 9223372036854775807) (w : World) :
    Calls Tryz.prog 78 #[.int .i64 n] w fun e w' => e = .returned (.int .i64 ((up n.toNat : Nat) : Int)) ∧ Below w.heap.size w w' := by
  obtain ⟨m, hm⟩ : ∃ m, n.toNat = m := ⟨_, rfl⟩
  obtain ⟨r, hr⟩ : ∃ r, rt m = r := ⟨_, rfl⟩
  have h3 : up m = if r * r < m then r + 1 else r := by unfold up; rw [hr]
  have h4 := (rt_spec m).1
  rw [hr] at h4
  have h5 : r ≤ 3037000499 := by
    rcases Nat.lt_or_ge 3037000499 r with h | h
    · have := Nat.mul_le_mul h h
      omega
    · exact h
  have HR : Hid (rt n.toNat = r) := by show _ = _; rw [hm, hr]
  obtain ⟨q, hq⟩ : ∃ q, r * r = q := ⟨_, rfl⟩
  have hqi : (r : Int) * (r : Int) = (q : Int) := by rw [← hq]; exact (Int.natCast_mul r r).symm
  rw [hq] at h3 h4
  have hq63 : q ≤ 9223372036854775807 := by omega
  have kw : wrap64 (q : Int) = (q : Int) := by unfold wrap64; omega
  have HU : Hid (up n.toNat = if q < m then r + 1 else r) := by show _ = _; rw [hm, h3]
  rw [HU.out]
  clear h3 hr hq HU
  by_cases hn : 0 < n
  · by_cases hlt : q < m
    · rw [if_pos hlt]
      have k1 : (q : Int) < n := by omega
      have k2 : decide (wrap64 (q : Int) < n) = true := by rw [kw]; exact decide_eq_true k1
      clear kw hq63 h4
      clear hlt hm
      go_enter Tryz.func78, Tryz.ntmps78
      go_wp2_with fail
      refine (isqrtB_r _ h1 h2 _).mono ?_
      rw [HR.out]
      rintro e w1 ⟨rfl, hb1⟩
      go_wp2_with fail
      go_ret
      exact ⟨by first | rfl | (congr 2; omega), hb1⟩
    · rw [if_neg hlt]
      have k1 : ¬ (q : Int) < n := by omega
      have k2 : decide (wrap64 (q : Int) < n) = false := by rw [kw]; exact decide_eq_false k1
      clear kw hq63 h4
      clear hlt hm
      go_enter Tryz.func78, Tryz.ntmps78
      go_wp2_with fail
      refine (isqrtB_r _ h1 h2 _).mono ?_
      rw [HR.out]
      rintro e w1 ⟨rfl, hb1⟩
      go_wp2_with fail
      go_ret
      exact ⟨rfl, hb1⟩
  · rw [if_neg (by omega)]
    clear hm
    go_enter Tryz.func78, Tryz.ntmps78
    go_wp2_with fail
    refine (isqrtB_r _ h1 h2 _).mono ?_
    rw [HR.out]
    rintro e w1 ⟨rfl, hb1⟩
    go_wp2_with fail
    go_ret
    exact ⟨rfl, hb1⟩
theorem mulDiv_parts (a b c : Int) (ha : Sm 63 a) (hb : Sm 63 b) (hc : Sm 63 c) (h0 : c ≠ 0) : ∃ q n ok, ((WI.of a).mul (WI.of b)).div (WI.of c) = (q, 0) ∧ q.i64 = (n, ok) ∧ mulDivV a b c = (if ok = true then (n, 0) else (0, 2)) := by
  have hab := ha.mul hb
  have h : ((WI.of a).mul (WI.of b)).div (WI.of c) = (WI.of ((a * b).fdiv c), 0) := by
    rw [WI.of_mul (ha.lim (by decide)) (hb.lim (by decide)), WI.of_div _ _ (hab.lim (by decide)) (hc.lim (by decide)) h0]
  refine ⟨_, (WI.of ((a * b).fdiv c)).i64.1, (WI.of ((a * b).fdiv c)).i64.2, h, rfl, ?_⟩
  unfold mulDivV narrowV
  rw [h, if_neg (by simp)]
theorem mulDivUp_parts (a b c : Int) (ha : Sm 63 a) (hb : Sm 63 b) (hc : Sm 63 c) (h0 : c ≠ 0) : ∃ q n ok, (((WI.of a).mul (WI.of b)).neg).div (WI.of c) = (q, 0) ∧ q.neg.i64 = (n, ok) ∧ mulDivUpV a b c = (if ok = true then (n, 0) else (0, 2)) := by
  have hab := ha.mul hb
  have h : (((WI.of a).mul (WI.of b)).neg).div (WI.of c) = (WI.of ((-(a * b)).fdiv c), 0) := by
    rw [WI.of_mul (ha.lim (by decide)) (hb.lim (by decide)), WI.of_neg (hab.lim (by decide)), WI.of_div _ _ (hab.neg.lim (by decide)) (hc.lim (by decide)) h0]
  refine ⟨_, (WI.of ((-(a * b)).fdiv c)).neg.i64.1, (WI.of ((-(a * b)).fdiv c)).neg.i64.2, h, rfl, ?_⟩
  unfold mulDivUpV narrowV aboveV
  rw [h, if_neg (by simp)]
set_option maxRecDepth 100000 in
set_option maxHeartbeats 1000000 in
/-- MulDiv. -/
theorem mulDivB_r (a b c : Int) (ha : -9223372036854775808 ≤ a ∧ a ≤ 9223372036854775807) (hb : -9223372036854775808 ≤ b ∧ b ≤ 9223372036854775807) (hc : -9223372036854775808 ≤ c ∧ c ≤ 9223372036854775807) (w : World) :
    Calls Tryz.prog 149 #[.int .i64 a, .int .i64 b, .int .i64 c] w fun e w' => e = .returned (.tuple #[.int .i64 (mulDivV a b c).1, .int .i64 (mulDivV a b c).2]) ∧ Below w.heap.size w w' := by
  by_cases h0 : c = 0
  · subst h0
    rw [mulDiv_eq a b 0 (Sm.of64 ha.1 ha.2) (Sm.of64 hb.1 hb.2) (Sm.of64 hc.1 hc.2), if_pos rfl]
    go_enter Tryz.func149, Tryz.ntmps149
    go_wp2_with fail
    go_ret2
    exact ⟨rfl, below_by⟩
  · obtain ⟨q, n, ok, hq, hn, hV⟩ := mulDiv_parts a b c (Sm.of64 ha.1 ha.2) (Sm.of64 hb.1 hb.2) (Sm.of64 hc.1 hc.2) h0
    rw [hV]
    have HQ := Lib.hid hq
    have HN := Lib.hid hn
    have HA := Lib.hid ha
    have HB := Lib.hid hb
    have HC := Lib.hid hc
    clear hq hn hV ha hb hc
    go_enter Tryz.func149, Tryz.ntmps149
    go_wp2_with fail
    refine (of_r a HA.out.1 HA.out.2 _).mono ?_
    rintro e w1 ⟨⟨v1, rfl, hv1⟩, hb1⟩
    go_wp2_with fail
    refine (of_r b HB.out.1 HB.out.2 _).mono ?_
    rintro e w2 ⟨⟨v2, rfl, hv2⟩, hb2⟩
    go_wp2_with fail
    refine (mul_r _ _ _ _ _ (hv1.below hb2) hv2).mono ?_
    rintro e w3 ⟨⟨v3, rfl, hv3⟩, hb3⟩
    have HB3 : Hid (Below w.heap.size w w3) := (hb1.trans (hb2.mono hb1.size)).trans (hb3.mono (Nat.le_trans hb1.size hb2.size))
    clear hv1 hv2 hb1 hb2 hb3
    go_wp2_with fail
    refine (of_r c HC.out.1 HC.out.2 _).mono ?_
    rintro e w4 ⟨⟨v4, rfl, hv4⟩, hb4⟩
    go_wp2_with fail
    refine Calls.mono (divB_r _ _ _ _ _ (hv3.below hb4) hv4) ?_
    rw [HQ.out]
    rintro e w5 ⟨⟨v5, rfl, hv5⟩, hb5⟩
    have HB5 : Hid (Below w.heap.size w w5) := (HB3.out.trans (hb4.mono HB3.out.size)).trans (hb5.mono (Nat.le_trans HB3.out.size hb4.size))
    obtain ⟨A, cc, rfl, hs5⟩ := hv5.opened
    have HS5 := Lib.hid hs5
    clear hv3 hv4 hv5 hs5 hb4 hb5 HB3
    go_wp2_with fail
    refine (int64_r _ q _ (BigIs.mk (HS5.out.below below_by))).mono ?_
    rw [HN.out]
    rintro e w7 ⟨rfl, hb7⟩
    have HB7 : Hid (Below w.heap.size w w7) := (HB5.out.alloc HB5.out.size _).trans (hb7.mono (by have := HB5.out.size; simp; omega))
    clear hb7
    cases ok with
    | true =>
      go_wp2_with fail
      go_ret2
      exact ⟨rfl, HB7.out⟩
    | false =>
      go_wp2_with fail
      go_ret2
      exact ⟨rfl, HB7.out⟩
set_option maxRecDepth 100000 in
set_option maxHeartbeats 1000000 in
/-- MulDivUp. -/
theorem mulDivUpB_r (a b c : Int) (ha : -9223372036854775808 ≤ a ∧ a ≤ 9223372036854775807) (hb : -9223372036854775808 ≤ b ∧ b ≤ 9223372036854775807) (hc : -9223372036854775808 ≤ c ∧ c ≤ 9223372036854775807) (w : World) :
    Calls Tryz.prog 148 #[.int .i64 a, .int .i64 b, .int .i64 c] w fun e w' => e = .returned (.tuple #[.int .i64 (mulDivUpV a b c).1, .int .i64 (mulDivUpV a b c).2]) ∧ Below w.heap.size w w' := by
  by_cases h0 : c = 0
  · subst h0
    rw [mulDivUp_eq a b 0 (Sm.of64 ha.1 ha.2) (Sm.of64 hb.1 hb.2) (Sm.of64 hc.1 hc.2), if_pos rfl]
    go_enter Tryz.func148, Tryz.ntmps148
    go_wp2_with fail
    go_ret2
    exact ⟨rfl, below_by⟩
  · obtain ⟨q, n, ok, hq, hn, hV⟩ := mulDivUp_parts a b c (Sm.of64 ha.1 ha.2) (Sm.of64 hb.1 hb.2) (Sm.of64 hc.1 hc.2) h0
    rw [hV]
    have HQ := Lib.hid hq
    have HN := Lib.hid hn
    have HA := Lib.hid ha
    have HB := Lib.hid hb
    have HC := Lib.hid hc
    clear hq hn hV ha hb hc
    go_enter Tryz.func148, Tryz.ntmps148
    go_wp2_with fail
    refine (of_r a HA.out.1 HA.out.2 _).mono ?_
    rintro e w1 ⟨⟨v1, rfl, hv1⟩, hb1⟩
    go_wp2_with fail
    refine (of_r b HB.out.1 HB.out.2 _).mono ?_
    rintro e w2 ⟨⟨v2, rfl, hv2⟩, hb2⟩
    go_wp2_with fail
    refine (mul_r _ _ _ _ _ (hv1.below hb2) hv2).mono ?_
    rintro e w3 ⟨⟨v3, rfl, hv3⟩, hb3⟩
    have HB3 : Hid (Below w.heap.size w w3) := (hb1.trans (hb2.mono hb1.size)).trans (hb3.mono (Nat.le_trans hb1.size hb2.size))
    clear hv1 hv2 hb1 hb2 hb3
    go_wp2_with fail
    refine (neg_r _ _ _ hv3).mono ?_
    rintro e w3' ⟨⟨v3', rfl, hv3'⟩, hb3'⟩
    replace HB3 : Hid (Below w.heap.size w w3') := HB3.out.trans (hb3'.mono HB3.out.size)
    clear hv3 hb3'
    go_wp2_with fail
    refine (of_r c HC.out.1 HC.out.2 _).mono ?_
    rintro e w4 ⟨⟨v4, rfl, hv4⟩, hb4⟩
    go_wp2_with fail
    refine Calls.mono (divB_r _ _ _ _ _ (hv3'.below hb4) hv4) ?_
    rw [HQ.out]
    rintro e w5 ⟨⟨v5, rfl, hv5⟩, hb5⟩
    have HB5 : Hid (Below w.heap.size w w5) := (HB3.out.trans (hb4.mono HB3.out.size)).trans (hb5.mono (Nat.le_trans HB3.out.size hb4.size))
    obtain ⟨A, cc, rfl, hs5⟩ := hv5.opened
    have HS5 := Lib.hid hs5
    clear hv3' hv4 hv5 hs5 hb4 hb5 HB3
    go_wp2_with fail
    refine (neg_r _ q _ (BigIs.mk (HS5.out.below below_by))).mono ?_
    rintro e w6 ⟨⟨v6, rfl, hv6⟩, hb6⟩
    have HB6 : Hid (Below w.heap.size w w6) := (HB5.out.alloc HB5.out.size _).trans (hb6.mono (by have := HB5.out.size; simp; omega))
    clear hb6
    go_wp2_with fail
    refine (int64_r _ q.neg _ hv6).mono ?_
    rw [HN.out]
    rintro e w7 ⟨rfl, hb7⟩
    have HB7 : Hid (Below w.heap.size w w7) := HB6.out.trans (hb7.mono HB6.out.size)
    clear hb7 HB6 hv6
    cases ok with
    | true =>
      go_wp2_with fail
      go_ret2
      exact ⟨rfl, HB7.out⟩
    | false =>
      go_wp2_with fail
      go_ret2
      exact ⟨rfl, HB7.out⟩
end Go.Proofs.YtnoidlacjiafdaaGreat
