/- The walk of RootSquares. -/
import Derived.Test.YtkfdfgecfedeiaaU0
namespace Go.Proofs.Ytkfdfgecfedeiaa
open Go.RowKit

set_option maxRecDepth 100000 in
set_option maxHeartbeats 2000000 in
theorem rootSquares_c (n : Int) (w : World) : Calls Try.prog 3 #[.int .i64 n] w fun e w' => e = .returned (.bool true) ∧ Below w.heap.size w w' := by
  obtain ⟨m, hm⟩ : ∃ m : Nat, (m : Int) = n % 2147483648 := ⟨(n % 2147483648).toNat, by omega⟩
  have hml : m < 2147483648 := by omega
  have a1 : bits .and .i64 n 2147483647 = (m : Int) := by rw [hm]; exact and_low n 31 2147483647 (by decide) (by decide)
  obtain ⟨s, hs⟩ : ∃ s, s = m * m := ⟨_, rfl⟩
  have hsl : s ≤ 2147483647 * 2147483647 := by rw [hs]; exact Nat.mul_le_mul (by omega) (by omega)
  have a2 : IntKind.i64.wrap ((m : Int) * (m : Int)) = (s : Int) := by rw [← Int.natCast_mul, ← hs, IntKind.wrap_i64]; omega
  have a2' : wrap64 ((m : Int) * (m : Int)) = (s : Int) := by rw [← Int.natCast_mul, ← hs]; unfold wrap64; omega
  obtain ⟨s1, hs1⟩ : ∃ s1, s1 = s + 1 := ⟨_, rfl⟩
  obtain ⟨m1, hm1⟩ : ∃ m1, m1 = m + 1 := ⟨_, rfl⟩
  obtain ⟨r1, hr1⟩ : ∃ r1, r1 = rt s1 := ⟨_, rfl⟩
  have a3' : (s : Int) + 1 = (s1 : Int) := by omega
  have a4' : (m : Int) + 1 = (m1 : Int) := by omega
  have e1 : m * m < (m + 1) * (m + 1) := by rw [Nat.add_mul, Nat.mul_add]; omega
  have E1 : Hid (m = rt s) := (rt_unique (by omega) (by omega)).symm
  have E2 : Hid (m = up s) := (up_unique (by omega) (by
    rcases Nat.eq_zero_or_pos m with h | h
    · exact .inl h
    · right; rw [hs]; exact Nat.mul_lt_mul'' (by omega) (by omega))).symm
  have E3 : Hid (r1 = rt s1) := hr1
  have E4 : Hid (m1 = up s1) := (up_unique (by rw [hm1, hs1, hs, Nat.add_mul, Nat.mul_add]; omega) (.inr (by rw [hm1, hs1, hs, Nat.add_sub_cancel]; omega))).symm
  have hmr : m ≤ r1 := by rw [hr1, E1.out]; exact rt_mono (by omega)
  have a5 : max (m : Int) (r1 : Int) = (r1 : Int) := by omega
  have b1 : (s : Int) ≤ 4611686014132420609 := by omega
  have b2 : (m : Int) ≤ 2147483647 := by omega
  have b3 : (0 : Int) ≤ (s : Int) := by omega
  have b4 : (0 : Int) ≤ (m : Int) := by omega
  have H1 : Hid (s ≤ 9223372036854775807 ∧ s1 ≤ 9223372036854775807) := ⟨by omega, by omega⟩
  by_cases h2 : m < 2
  · have h2' : (m : Int) < 2 := by omega
    clear hm hml hs hsl hs1 hm1 hr1 e1 hmr
    go_enter Try.func3, Try.ntmps3
    go_wp2_with fail
    refine (rsqrt_v s m H1.out.1 E1.out _).mono ?_; rintro e w1 ⟨rfl, hb1⟩; have z1 := hb1.size
    go_wp2_with fail
    refine (rup_v s m H1.out.1 E2.out _).mono ?_; rintro e w2 ⟨rfl, hb2⟩; have z2 := hb2.size
    go_wp2_with fail
    refine (rsqrt_v s1 r1 H1.out.2 E3.out _).mono ?_; rintro e w3 ⟨rfl, hb3⟩; have z3 := hb3.size
    go_wp2_with fail
    refine (rsqrt_v s1 r1 H1.out.2 E3.out _).mono ?_; rintro e w4 ⟨rfl, hb4⟩; have z4 := hb4.size
    go_wp2_with fail
    refine (rup_v s1 m1 H1.out.2 E4.out _).mono ?_; rintro e w5 ⟨rfl, hb5⟩; have z5 := hb5.size
    go_wp2_with fail
    refine (awake_c _).mono ?_; rintro e w6 ⟨rfl, hb6⟩
    go_wp2_with fail
    go_ret
    exact ⟨rfl, (by repeat (first | exact Below.refl _ _ | exact Below_of_hid (by assumption) | refine Below.drew ?_ | refine below_drewN ?_ _ | refine Below_putRow ?_ (by first | omega | (simp; done) | (simp; omega) | fail) _ _ | refine Below.alloc ?_ (by first | omega | (simp; done) | (simp; omega) | fail) _ | refine Below.setCell ?_ (by first | omega | (simp; done) | (simp; omega) | fail) _ | refine Below.trans ?_ (Below.mono (by assumption) (by first | omega | (simp; done) | (simp; omega) | fail))))⟩
  · have h2' : ¬ (m : Int) < 2 := by omega
    obtain ⟨q, hq⟩ : ∃ q, m = q + 1 := ⟨m - 1, by omega⟩
    obtain ⟨s2, hs2⟩ : ∃ s2, s = s2 + 1 := ⟨s - 1, by
      have : 2 * 2 ≤ m * m := Nat.mul_le_mul (by omega) (by omega)
      omega⟩
    have a6' : (s : Int) - 1 = (s2 : Int) := by omega
    have a7' : (m : Int) - 1 = (q : Int) := by omega
    have e3 : (q + 1) * (q + 1) = s2 + 1 := by rw [← hq, ← hs, hs2]
    have e4 : (q + 1) * (q + 1) = q * q + 2 * q + 1 := by grind
    have E5 : Hid (q = rt s2) := (rt_unique (by omega) (by omega)).symm
    have E6 : Hid (m = up s2) := (up_unique (by rw [hq, e3]; omega) (.inr (by rw [hq, Nat.add_sub_cancel]; omega))).symm
    have H2 : Hid (s2 ≤ 9223372036854775807) := by show s2 ≤ _; omega
    clear hm hml hs hsl hs1 hm1 hr1 e1 hmr h2 hq hs2 e3 e4
    go_enter Try.func3, Try.ntmps3
    go_wp2_with fail
    refine (rsqrt_v s m H1.out.1 E1.out _).mono ?_; rintro e w1 ⟨rfl, hb1⟩; have z1 := hb1.size
    go_wp2_with fail
    refine (rup_v s m H1.out.1 E2.out _).mono ?_; rintro e w2 ⟨rfl, hb2⟩; have z2 := hb2.size
    go_wp2_with fail
    refine (rsqrt_v s1 r1 H1.out.2 E3.out _).mono ?_; rintro e w3 ⟨rfl, hb3⟩; have z3 := hb3.size
    go_wp2_with fail
    refine (rsqrt_v s1 r1 H1.out.2 E3.out _).mono ?_; rintro e w4 ⟨rfl, hb4⟩; have z4 := hb4.size
    go_wp2_with fail
    refine (rup_v s1 m1 H1.out.2 E4.out _).mono ?_; rintro e w5 ⟨rfl, hb5⟩; have z5 := hb5.size
    go_wp2_with fail
    refine (rsqrt_v s2 q H2.out E5.out _).mono ?_; rintro e w6 ⟨rfl, hb6⟩; have z6 := hb6.size
    go_wp2_with fail
    refine (rup_v s2 m H2.out E6.out _).mono ?_; rintro e w7 ⟨rfl, hb7⟩; have z7 := hb7.size
    go_wp2_with fail
    refine (awake_c _).mono ?_; rintro e w8 ⟨rfl, hb8⟩
    go_wp2_with fail
    go_ret
    exact ⟨rfl, (by repeat (first | exact Below.refl _ _ | exact Below_of_hid (by assumption) | refine Below.drew ?_ | refine below_drewN ?_ _ | refine Below_putRow ?_ (by first | omega | (simp; done) | (simp; omega) | fail) _ _ | refine Below.alloc ?_ (by first | omega | (simp; done) | (simp; omega) | fail) _ | refine Below.setCell ?_ (by first | omega | (simp; done) | (simp; omega) | fail) _ | refine Below.trans ?_ (Below.mono (by assumption) (by first | omega | (simp; done) | (simp; omega) | fail))))⟩
end Go.Proofs.Ytkfdfgecfedeiaa
