/- The walks of the document's Isqrt, Up, MulDiv, MulDivUp. -/
import Derived.Test.YtilginoibhfeiaaGreatQA
import Derived.Test.YtilginoibhfeiaaGreatRF
import Derived.Test.YtilginoibhfeiaaGreatBY
namespace Go.Proofs.YtilginoibhfeiaaGreat
open Go.RowKit

theorem isqrt_plain (m : Nat) (h : m ≤ 9223372036854775807) : (WI.of (m : Int)).sqrt = (WI.of (rt m : Nat), 0) ∧ (WI.of ((rt m : Nat) : Int)).i64 = (((rt m : Nat) : Int), true) := by
  have h1 := rt_le m
  refine ⟨WI.of_sqrt m (lim_small (by omega)), ?_⟩
  rw [WI.of_i64 _ (by rw [Int.natAbs_natCast]; exact lim_small (by omega)), if_pos (by omega)]
set_option maxRecDepth 100000 in
set_option maxHeartbeats 1000000 in
/-- Isqrt. -/
theorem isqrtB_r (n : Int) (h1 : -9223372036854775808 ≤ n) (h2 : n ≤ 9223372036854775807) (w : World) :
    Calls Tryz.prog 74 #[.int .i64 n] w fun e w' => e = .returned (.int .i64 ((rt n.toNat : Nat) : Int)) ∧ Below w.heap.size w w' := by
  by_cases hn : n < 1
  · rw [show n.toNat = 0 by omega, rt_0]
    go_enter Tryz.func74, Tryz.ntmps74
    go_wp2_with fail
    go_ret
    exact ⟨rfl, below_by⟩
  · obtain ⟨m, rfl⟩ : ∃ m : Nat, n = m := ⟨n.toNat, by omega⟩
    rw [Int.toNat_natCast]
    obtain ⟨hs, hi⟩ := isqrt_plain m (by omega)
    obtain ⟨y, hy⟩ : ∃ y, WI.of ((rt m : Nat) : Int) = y := ⟨_, rfl⟩
    rw [hy] at hs hi
    have HS := Lib.hid hs
    have HI := Lib.hid hi
    obtain ⟨r, hr⟩ : ∃ r : Nat, rt m = r := ⟨_, rfl⟩
    rw [hr] at HI ⊢
    clear hs hi hy hr
    go_enter Tryz.func74, Tryz.ntmps74
    go_wp2_with fail
    refine (of_r _ h1 h2 _).mono ?_
    rintro e w1 ⟨⟨v, rfl, hv⟩, hb1⟩
    go_wp2_with fail
    refine Calls.mono (sqrtB_r _ _ _ hv) ?_
    rw [HS.out]
    rintro e w2 ⟨⟨v2, rfl, hv2⟩, hb2⟩
    obtain ⟨A, c, rfl, hs2⟩ := hv2.opened
    have HS2 := Lib.hid hs2
    have HB2 : Hid (Below w.heap.size w w2) := hb1.trans (hb2.mono hb1.size)
    clear hb1 hb2 hv hv2 hs2
    go_wp2_with fail
    refine (int64_r _ y _ (BigIs.mk (HS2.out.below below_by))).mono ?_
    rw [HI.out]
    rintro e w3 ⟨rfl, hb3⟩
    have HB3 : Hid (Below w.heap.size w w3) := (HB2.out.alloc HB2.out.size _).trans (hb3.mono (by have := HB2.out.size; simp; omega))
    clear hb3
    go_wp2_with fail
    go_ret
    exact ⟨rfl, HB3.out⟩
end Go.Proofs.YtilginoibhfeiaaGreat
