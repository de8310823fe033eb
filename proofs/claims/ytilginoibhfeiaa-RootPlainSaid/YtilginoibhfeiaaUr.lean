/- The walk of RootPlain. -/
import Derived.Test.YtilginoibhfeiaaBY
import Derived.Test.YtilginoibhfeiaaRq
namespace Go.Proofs.Ytilginoibhfeiaa
open Go.RowKit

theorem down_toNat (n : Int) (h2 : n ≤ 9223372036854775807) : (wdownV (WI.of (max 0 n))).1 = ((rt n.toNat : Nat) : Int) := by
  have h1 := rt_le n.toNat
  rw [show max 0 n = ((n.toNat : Nat) : Int) by omega, wdown_nat _ (lim_small (by omega))]
  unfold fitI; rw [if_pos (by omega)]
theorem up_toNat (n : Int) (h2 : n ≤ 9223372036854775807) : (wupV (WI.of (max 0 n))).1 = ((up n.toNat : Nat) : Int) := by
  have h1 := rt_lt n.toNat 3037000500 (by omega)
  rw [show max 0 n = ((n.toNat : Nat) : Int) by omega, wup_nat _ (lim_small (by omega)) (by omega)]
set_option maxRecDepth 100000 in
set_option maxHeartbeats 1000000 in
theorem rootPlain_c (n a b c : Int) (hn : -9223372036854775808 ≤ n ∧ n ≤ 9223372036854775807) (ha : -9223372036854775808 ≤ a ∧ a ≤ 9223372036854775807) (hb : -9223372036854775808 ≤ b ∧ b ≤ 9223372036854775807) (hc : -9223372036854775808 ≤ c ∧ c ≤ 9223372036854775807) (w : World) :
    Calls Try.prog 4 #[.int .i64 n, .int .i64 a, .int .i64 b, .int .i64 c] w fun e w' => e = .returned (.bool true) ∧ Below w.heap.size w w' := by
  obtain ⟨p, e1, hp⟩ : ∃ p e, mulDivV a b c = (p, e) := ⟨_, _, rfl⟩
  obtain ⟨q, e2, hq⟩ : ∃ p e, mulDivUpV a b c = (p, e) := ⟨_, _, rfl⟩
  have HP := Lib.hid hp
  have HQ := Lib.hid hq
  have HD := Lib.hid (down_toNat n hn.2)
  have HU := Lib.hid (up_toNat n hn.2)
  obtain ⟨r, hr⟩ : ∃ r, ((rt n.toNat : Nat) : Int) = r := ⟨_, rfl⟩
  obtain ⟨s, hs⟩ : ∃ r, ((up n.toNat : Nat) : Int) = r := ⟨_, rfl⟩
  rw [hr] at HD
  rw [hs] at HU
  have HR := Lib.hid hr
  have HS := Lib.hid hs
  have HNN := Lib.hid hn
  have HA := Lib.hid ha
  have HB := Lib.hid hb
  have HC := Lib.hid hc
  clear hp hq hr hs hn ha hb hc
  go_enter Try.func4, Try.ntmps4
  go_wp2_with fail
  refine (mulDiv_c a b c HA.out HB.out HC.out _).mono ?_; rintro e w1 ⟨rfl, hb1⟩; rw [HP.out]
  go_wp2_with fail
  refine (mulDivB_r a b c HA.out HB.out HC.out _).mono ?_; rintro e w2 ⟨rfl, hb2⟩; rw [HP.out]
  have HB2 : Hid (Below w.heap.size w w2) := hb1.trans (hb2.mono hb1.size)
  clear hb1 hb2
  go_wp2_with fail
  refine (mulDivUp_c a b c HA.out HB.out HC.out _).mono ?_; rintro e w3 ⟨rfl, hb3⟩; rw [HQ.out]
  have HB3 : Hid (Below w.heap.size w w3) := HB2.out.trans (hb3.mono HB2.out.size)
  clear hb3 HB2
  go_wp2_with fail
  refine (mulDivUpB_r a b c HA.out HB.out HC.out _).mono ?_; rintro e w4 ⟨rfl, hb4⟩; rw [HQ.out]
  have HB4 : Hid (Below w.heap.size w w4) := HB3.out.trans (hb4.mono HB3.out.size)
  clear hb4 HB3
  go_wp2_with fail
  refine (rsqrt_c n HNN.out.1 HNN.out.2 _).mono ?_; rintro e w5 ⟨rfl, hb5⟩; rw [HD.out]
  have HB5 : Hid (Below w.heap.size w w5) := HB4.out.trans (hb5.mono HB4.out.size)
  clear hb5 HB4
  go_wp2_with fail
  refine (isqrtB_r n HNN.out.1 HNN.out.2 _).mono ?_; rintro e w6 ⟨rfl, hb6⟩; rw [HR.out]
  have HB6 : Hid (Below w.heap.size w w6) := HB5.out.trans (hb6.mono HB5.out.size)
  clear hb6 HB5
  go_wp2_with fail
  refine (rup_c n HNN.out.1 HNN.out.2 _).mono ?_; rintro e w7 ⟨rfl, hb7⟩; rw [HU.out]
  have HB7 : Hid (Below w.heap.size w w7) := HB6.out.trans (hb7.mono HB6.out.size)
  clear hb7 HB6
  go_wp2_with fail
  refine (upB_r n HNN.out.1 HNN.out.2 _).mono ?_; rintro e w8 ⟨rfl, hb8⟩; rw [HS.out]
  have HB8 : Hid (Below w.heap.size w w8) := HB7.out.trans (hb8.mono HB7.out.size)
  clear hb8 HB7
  go_wp2_with fail
  refine (awake_c _).mono ?_; rintro e w9 ⟨rfl, hb9⟩
  have HB9 : Hid (Below w.heap.size w w9) := HB8.out.trans (hb9.mono HB8.out.size)
  clear hb9 HB8
  go_wp2_with fail
  go_ret
  exact ⟨rfl, HB9.out⟩
end Go.Proofs.Ytilginoibhfeiaa
