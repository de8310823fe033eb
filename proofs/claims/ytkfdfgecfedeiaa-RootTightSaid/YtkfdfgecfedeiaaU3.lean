/- The walk of RootTight. -/
import Derived.Test.YtkfdfgecfedeiaaU2
namespace Go.Proofs.Ytkfdfgecfedeiaa
open Go.RowKit

theorem sgn_eq_iff (a b : Int) : (if a < b then (-1 : Int) else if b < a then 1 else 0) = 0 ↔ a = b := by
  split
  · constructor
    · intro h; cases h
    · intro h; omega
  · split
    · constructor
      · intro h; cases h
      · intro h; omega
    · constructor
      · intro _; omega
      · intro _; rfl

set_option maxRecDepth 100000 in
set_option maxHeartbeats 4000000 in
theorem rootTight_c (n a b c : Int) (ha : -9223372036854775808 ≤ a ∧ a ≤ 9223372036854775807) (hb : -9223372036854775808 ≤ b ∧ b ≤ 9223372036854775807) (hc : -9223372036854775808 ≤ c ∧ c ≤ 9223372036854775807) (w : World) :
    Calls Try.prog 5 #[.int .i64 n, .int .i64 a, .int .i64 b, .int .i64 c] w fun e w' => e = .returned (.bool true) ∧ Below w.heap.size w w' := by
  obtain ⟨N, hN⟩ : ∃ N : Nat, (N : Int) = n % 4611686018427387904 := ⟨(n % 4611686018427387904).toNat, by omega⟩
  have a1 : bits .and .i64 n 4611686018427387903 = (N : Int) := by rw [hN]; exact and_low n 62 4611686018427387903 (by decide) (by decide)
  have hNl : N < 4611686018427387904 := by omega
  obtain ⟨s, hs⟩ : ∃ s, s = rt N := ⟨_, rfl⟩
  obtain ⟨u, hu⟩ : ∃ u, u = up N := ⟨_, rfl⟩
  have sp := rt_spec N
  have upp := up_spec N
  have hsu := rt_le_up N
  rw [← hs] at sp hsu
  rw [← hu] at upp hsu
  have sl : s < 2147483648 := by rw [hs]; exact rt_lt N 2147483648 (by omega)
  have ul : u ≤ 2147483648 := by rw [hu]; exact up_le N 2147483648 (by omega)
  obtain ⟨S, hS⟩ : ∃ S, S = s * s := ⟨_, rfl⟩
  obtain ⟨U, hU⟩ : ∃ U, U = u * u := ⟨_, rfl⟩
  have Sl : S ≤ 2147483647 * 2147483647 := by rw [hS]; exact Nat.mul_le_mul (by omega) (by omega)
  have Ul : U ≤ 2147483648 * 2147483648 := by rw [hU]; exact Nat.mul_le_mul ul ul
  have m1 : IntKind.i64.wrap ((s : Int) * (s : Int)) = (S : Int) := by rw [← Int.natCast_mul, ← hS, IntKind.wrap_i64]; omega
  have m2 : IntKind.i64.wrap ((u : Int) * (u : Int)) = (U : Int) := by rw [← Int.natCast_mul, ← hU, IntKind.wrap_i64]; omega
  rw [← hS] at sp
  rw [← hU] at upp
  have hAB : (u = s ∧ S = N ∧ U = N) ∨ ((u : Int) - (s : Int) = 1 ∧ ¬ (u : Int) = (s : Int) ∧ ¬ u = s ∧ (u == s) = false ∧ ((u : Int) == (s : Int)) = false ∧ ¬ (N : Int) < (S : Int) ∧ ¬ N < S ∧ ¬ (S : Int) = (N : Int) ∧ ¬ S = N ∧ ((S : Int) == (N : Int)) = false ∧ ¬ (U : Int) < (N : Int) ∧ ¬ U < N) := by
    have hup : u = if S < N then s + 1 else s := by rw [hu, hS, hs]; rfl
    by_cases h : S < N
    · rw [if_pos h] at hup
      have h1 := upp.1
      right
      have n1 : ¬ (u : Int) = (s : Int) := by omega
      have n2 : ¬ (S : Int) = (N : Int) := by omega
      exact ⟨by omega, n1, by omega, by simp; omega, by simpa using n1, by omega, by omega, n2, by omega, by simpa using n2, by omega, by omega⟩
    · rw [if_neg h] at hup
      have hSU : U = S := by rw [hU, hup, hS]
      exact .inl ⟨hup, by omega, by omega⟩
  have E : Hid (s = rt N ∧ u = up N ∧ N ≤ 9223372036854775807) := ⟨hs, hu, by omega⟩
  have b1 : (s : Int) ≤ 2147483647 := by omega
  have b2 : (u : Int) ≤ 2147483648 := by omega
  have b3 : (0 : Int) ≤ (s : Int) := by omega
  have b4 : (0 : Int) ≤ (u : Int) := by omega
  obtain ⟨p, e, hpe⟩ : ∃ p e, mulDivV a b c = (p, e) := ⟨_, _, rfl⟩
  obtain ⟨q, f, hqf⟩ : ∃ q f, mulDivUpV a b c = (q, f) := ⟨_, _, rfl⟩
  have M : Hid (mulDivV a b c = (p, e) ∧ mulDivUpV a b c = (q, f)) := ⟨hpe, hqf⟩
  have HA := Lib.hid ha
  have HB := Lib.hid hb
  have HC := Lib.hid hc
  have sa := Sm.of64 ha.1 ha.2
  have sb := Sm.of64 hb.1 hb.2
  have sc := Sm.of64 hc.1 hc.2
  have hcs : (c = 0 ∧ e = 1 ∧ f = 1) ∨ (((c != 0) = true ∧ ¬ c = 0) ∧ (e != 0) = true ∧ ¬ e = 0) ∨ (((c != 0) = true ∧ ¬ c = 0) ∧ e = 0 ∧ (f != 0) = true ∧ ¬ f = 0) ∨ (e = 0 ∧ f = 0 ∧ (-9223372036854775808 ≤ p ∧ p ≤ 9223372036854775807) ∧ q = p ∧ p * c = a * b) ∨
      (e = 0 ∧ f = 0 ∧ (-9223372036854775808 ≤ p ∧ p < 9223372036854775807) ∧ q = p + 1 ∧ ¬ p * c = a * b) := by
    rw [mulDiv_eq a b c sa sb sc] at hpe
    rw [mulDivUp_eq a b c sa sb sc] at hqf
    by_cases h0 : c = 0
    · rw [if_pos h0] at hpe hqf
      injection hpe with h1 h2
      injection hqf with h3 h4
      exact .inl ⟨h0, h2.symm, h4.symm⟩
    · rw [if_neg h0] at hpe hqf
      right
      have hc0 : (c != 0) = true ∧ ¬ c = 0 := ⟨by simp [h0], h0⟩
      unfold fitI at hpe hqf
      have hfc := floor_le_ceil (a * b) c h0
      split at hpe
      · rename_i r1
        injection hpe with h1 h2
        split at hqf
        · rename_i r2
          injection hqf with h3 h4
          subst h1; subst h3
          right; right
          by_cases hq : (a * b).fdiv c = -((-(a * b)).fdiv c)
          · exact .inl ⟨h2.symm, h4.symm, r1, hq.symm, hfc.2.2.1 hq⟩
          · exact .inr ⟨h2.symm, h4.symm, ⟨r1.1, by omega⟩, by omega, fun h => hq (hfc.2.2.2 h)⟩
        · injection hqf with h3 h4
          right; left
          exact ⟨hc0, h2.symm, by rw [← h4]; decide, by rw [← h4]; decide⟩
      · injection hpe with h1 h2
        left
        exact ⟨hc0, by rw [← h2]; decide, by rw [← h2]; decide⟩
  have ER : Hid ((-9223372036854775808 ≤ p ∧ p ≤ 9223372036854775807) → ((WI.of p).mul (WI.of c)).cmp ((WI.of a).mul (WI.of b)) = (if p * c < a * b then -1 else if a * b < p * c then 1 else 0, true)) := by
    intro hp
    have sp2 := Sm.of64 hp.1 hp.2
    rw [WI.of_mul (sp2.lim (by decide)) (sc.lim (by decide)), WI.of_mul (sa.lim (by decide)) (sb.lim (by decide)), WI.of_cmp _ _ ((sp2.mul sc).lim (by decide)) ((sa.mul sb).lim (by decide))]
  have evs : ∀ x y : Int, ∃ ev : Int, (if x < y then (-1 : Int) else if y < x then 1 else 0) = ev ∧ (ev = 0 ↔ x = y) := fun x y => ⟨_, rfl, sgn_eq_iff x y⟩
  clear hN hNl hs hu sp upp hsu sl ul hS hU Sl Ul ha hb hc sa sb sc hpe hqf
  rcases hAB with ⟨rfl, rfl, rfl⟩ | ⟨d1, d2, d3, d4, d5, d6, d7, d8, d9, d10, d11, d12⟩
  all_goals rcases hcs with ⟨rfl, rfl, rfl⟩ | ⟨⟨c1, c2⟩, e1, e2⟩ | ⟨⟨c1, c2⟩, rfl, f1, f2⟩ | ⟨rfl, rfl, hp, hq, hpc⟩ | ⟨rfl, rfl, hp, hq, hpc⟩
  · go_enter Try.func5, Try.ntmps5
    go_wp2_with fail
    refine (rsqrt_v _ _ E.out.2.2 E.out.1 _).mono ?_; rintro e w1 ⟨rfl, hb1⟩; have z1 := hb1.size
    go_wp2_with fail
    refine (rup_v _ _ E.out.2.2 E.out.2.1 _).mono ?_; rintro e w2 ⟨rfl, hb2⟩; have z2 := hb2.size
    go_wp2_with fail
    refine (mulDiv_v a b _ _ _ HA.out HB.out HC.out M.out.1 _).mono ?_; rintro e w3 ⟨rfl, hb3⟩; have z3 := hb3.size
    go_wp2_with fail
    refine (mulDivUp_v a b _ _ _ HA.out HB.out HC.out M.out.2 _).mono ?_; rintro e w4 ⟨rfl, hb4⟩; have z4 := hb4.size
    go_wp2_with fail
    refine (awake_c _).mono ?_; rintro e w5 ⟨rfl, hb5⟩
    go_wp2_with fail
    go_ret
    exact ⟨rfl, (by repeat (first | exact Below.refl _ _ | exact Below_of_hid (by assumption) | refine Below.drew ?_ | refine below_drewN ?_ _ | refine Below_putRow ?_ (by first | omega | (simp; done) | (simp; omega) | fail) _ _ | refine Below.alloc ?_ (by first | omega | (simp; done) | (simp; omega) | fail) _ | refine Below.setCell ?_ (by first | omega | (simp; done) | (simp; omega) | fail) _ | refine Below.trans ?_ (Below.mono (by assumption) (by first | omega | (simp; done) | (simp; omega) | fail))))⟩
  · go_enter Try.func5, Try.ntmps5
    go_wp2_with fail
    refine (rsqrt_v _ _ E.out.2.2 E.out.1 _).mono ?_; rintro e w1 ⟨rfl, hb1⟩; have z1 := hb1.size
    go_wp2_with fail
    refine (rup_v _ _ E.out.2.2 E.out.2.1 _).mono ?_; rintro e w2 ⟨rfl, hb2⟩; have z2 := hb2.size
    go_wp2_with fail
    refine (mulDiv_v a b _ _ _ HA.out HB.out HC.out M.out.1 _).mono ?_; rintro e w3 ⟨rfl, hb3⟩; have z3 := hb3.size
    go_wp2_with fail
    refine (mulDivUp_v a b _ _ _ HA.out HB.out HC.out M.out.2 _).mono ?_; rintro e w4 ⟨rfl, hb4⟩; have z4 := hb4.size
    go_wp2_with fail
    refine (awake_c _).mono ?_; rintro e w5 ⟨rfl, hb5⟩
    go_wp2_with fail
    go_ret
    exact ⟨rfl, (by repeat (first | exact Below.refl _ _ | exact Below_of_hid (by assumption) | refine Below.drew ?_ | refine below_drewN ?_ _ | refine Below_putRow ?_ (by first | omega | (simp; done) | (simp; omega) | fail) _ _ | refine Below.alloc ?_ (by first | omega | (simp; done) | (simp; omega) | fail) _ | refine Below.setCell ?_ (by first | omega | (simp; done) | (simp; omega) | fail) _ | refine Below.trans ?_ (Below.mono (by assumption) (by first | omega | (simp; done) | (simp; omega) | fail))))⟩
  · go_enter Try.func5, Try.ntmps5
    go_wp2_with fail
    refine (rsqrt_v _ _ E.out.2.2 E.out.1 _).mono ?_; rintro e w1 ⟨rfl, hb1⟩; have z1 := hb1.size
    go_wp2_with fail
    refine (rup_v _ _ E.out.2.2 E.out.2.1 _).mono ?_; rintro e w2 ⟨rfl, hb2⟩; have z2 := hb2.size
    go_wp2_with fail
    refine (mulDiv_v a b _ _ _ HA.out HB.out HC.out M.out.1 _).mono ?_; rintro e w3 ⟨rfl, hb3⟩; have z3 := hb3.size
    go_wp2_with fail
    refine (mulDivUp_v a b _ _ _ HA.out HB.out HC.out M.out.2 _).mono ?_; rintro e w4 ⟨rfl, hb4⟩; have z4 := hb4.size
    go_wp2_with fail
    refine (awake_c _).mono ?_; rintro e w5 ⟨rfl, hb5⟩
    go_wp2_with fail
    go_ret
    exact ⟨rfl, (by repeat (first | exact Below.refl _ _ | exact Below_of_hid (by assumption) | refine Below.drew ?_ | refine below_drewN ?_ _ | refine Below_putRow ?_ (by first | omega | (simp; done) | (simp; omega) | fail) _ _ | refine Below.alloc ?_ (by first | omega | (simp; done) | (simp; omega) | fail) _ | refine Below.setCell ?_ (by first | omega | (simp; done) | (simp; omega) | fail) _ | refine Below.trans ?_ (Below.mono (by assumption) (by first | omega | (simp; done) | (simp; omega) | fail))))⟩
  · have HP : Hid (-9223372036854775808 ≤ p ∧ p ≤ 9223372036854775807) := hp
    obtain ⟨ev, hev, hev2⟩ := evs (p * c) (a * b)
    have v1 : ev = 0 := hev2.2 hpc
    have HEV : Hid (((WI.of p).mul (WI.of c)).cmp ((WI.of a).mul (WI.of b)) = (0, true)) := by show _ = _; rw [ER.out hp, hev, v1]
    have g1 : q - p = 0 := by omega
    have g2 : (p == q) = true := by simp [hq]
    have g3 : decide (p = q) = true := decide_eq_true (by omega)
    clear hev hev2 v1 hpc hq hp evs
    go_enter Try.func5, Try.ntmps5
    go_wp2_with fail
    refine (rsqrt_v _ _ E.out.2.2 E.out.1 _).mono ?_; rintro e w1 ⟨rfl, hb1⟩; have z1 := hb1.size
    go_wp2_with fail
    refine (rup_v _ _ E.out.2.2 E.out.2.1 _).mono ?_; rintro e w2 ⟨rfl, hb2⟩; have z2 := hb2.size
    go_wp2_with fail
    refine (mulDiv_v a b _ _ _ HA.out HB.out HC.out M.out.1 _).mono ?_; rintro e w3 ⟨rfl, hb3⟩; have z3 := hb3.size
    go_wp2_with fail
    refine (mulDivUp_v a b _ _ _ HA.out HB.out HC.out M.out.2 _).mono ?_; rintro e w4 ⟨rfl, hb4⟩; have z4 := hb4.size
    go_wp2_with fail
    refine (of_c _ HP.out.1 HP.out.2 _).mono ?_; rintro e w5 ⟨rfl, hb5⟩; have z5 := hb5.size
    go_wp2_with fail
    refine (of_c _ HC.out.1 HC.out.2 _).mono ?_; rintro e w6 ⟨rfl, hb6⟩; have z6 := hb6.size
    go_wp2_with fail
    refine (mul_I _ _ _).mono ?_; rintro e w7 ⟨rfl, hb7⟩; have z7 := hb7.size
    go_wp2_with fail
    refine (of_c _ HA.out.1 HA.out.2 _).mono ?_; rintro e w8 ⟨rfl, hb8⟩; have z8 := hb8.size
    go_wp2_with fail
    refine (of_c _ HB.out.1 HB.out.2 _).mono ?_; rintro e w9 ⟨rfl, hb9⟩; have z9 := hb9.size
    go_wp2_with fail
    refine (mul_I _ _ _).mono ?_; rintro e wa ⟨rfl, hba⟩; have za := hba.size
    go_wp2_with fail
    refine (cmp_I _ _ _).mono ?_; rintro e wb ⟨rfl, hbb⟩; have zb := hbb.size; rw [HEV.out]
    go_wp2_with fail
    refine (awake_c _).mono ?_; rintro e wd ⟨rfl, hbd⟩
    go_wp2_with fail
    go_ret
    exact ⟨rfl, (by repeat (first | exact Below.refl _ _ | exact Below_of_hid (by assumption) | refine Below.drew ?_ | refine below_drewN ?_ _ | refine Below_putRow ?_ (by first | omega | (simp; done) | (simp; omega) | fail) _ _ | refine Below.alloc ?_ (by first | omega | (simp; done) | (simp; omega) | fail) _ | refine Below.setCell ?_ (by first | omega | (simp; done) | (simp; omega) | fail) _ | refine Below.trans ?_ (Below.mono (by assumption) (by first | omega | (simp; done) | (simp; omega) | fail))))⟩
  · have HP : Hid (-9223372036854775808 ≤ p ∧ p ≤ 9223372036854775807) := ⟨hp.1, by omega⟩
    obtain ⟨ev, hev, hev2⟩ := evs (p * c) (a * b)
    have v1 : ¬ ev = 0 := fun h => hpc (hev2.1 h)
    have HEV : Hid (((WI.of p).mul (WI.of c)).cmp ((WI.of a).mul (WI.of b)) = (ev, true)) := by show _ = _; rw [ER.out HP.out, hev]
    have v2 : (ev == 0) = false := by simp [v1]
    have g1 : q - p = 1 := by omega
    have g0 : ¬ p = q := by omega
    have g2 : (p == q) = false := by simp [g0]
    clear hev hev2 hpc hq hp evs
    go_enter Try.func5, Try.ntmps5
    go_wp2_with fail
    refine (rsqrt_v _ _ E.out.2.2 E.out.1 _).mono ?_; rintro e w1 ⟨rfl, hb1⟩; have z1 := hb1.size
    go_wp2_with fail
    refine (rup_v _ _ E.out.2.2 E.out.2.1 _).mono ?_; rintro e w2 ⟨rfl, hb2⟩; have z2 := hb2.size
    go_wp2_with fail
    refine (mulDiv_v a b _ _ _ HA.out HB.out HC.out M.out.1 _).mono ?_; rintro e w3 ⟨rfl, hb3⟩; have z3 := hb3.size
    go_wp2_with fail
    refine (mulDivUp_v a b _ _ _ HA.out HB.out HC.out M.out.2 _).mono ?_; rintro e w4 ⟨rfl, hb4⟩; have z4 := hb4.size
    go_wp2_with fail
    refine (of_c _ HP.out.1 HP.out.2 _).mono ?_; rintro e w5 ⟨rfl, hb5⟩; have z5 := hb5.size
    go_wp2_with fail
    refine (of_c _ HC.out.1 HC.out.2 _).mono ?_; rintro e w6 ⟨rfl, hb6⟩; have z6 := hb6.size
    go_wp2_with fail
    refine (mul_I _ _ _).mono ?_; rintro e w7 ⟨rfl, hb7⟩; have z7 := hb7.size
    go_wp2_with fail
    refine (of_c _ HA.out.1 HA.out.2 _).mono ?_; rintro e w8 ⟨rfl, hb8⟩; have z8 := hb8.size
    go_wp2_with fail
    refine (of_c _ HB.out.1 HB.out.2 _).mono ?_; rintro e w9 ⟨rfl, hb9⟩; have z9 := hb9.size
    go_wp2_with fail
    refine (mul_I _ _ _).mono ?_; rintro e wa ⟨rfl, hba⟩; have za := hba.size
    go_wp2_with fail
    refine (cmp_I _ _ _).mono ?_; rintro e wb ⟨rfl, hbb⟩; have zb := hbb.size; rw [HEV.out]
    go_wp2_with fail
    refine (awake_c _).mono ?_; rintro e wd ⟨rfl, hbd⟩
    go_wp2_with fail
    go_ret
    exact ⟨rfl, (by repeat (first | exact Below.refl _ _ | exact Below_of_hid (by assumption) | refine Below.drew ?_ | refine below_drewN ?_ _ | refine Below_putRow ?_ (by first | omega | (simp; done) | (simp; omega) | fail) _ _ | refine Below.alloc ?_ (by first | omega | (simp; done) | (simp; omega) | fail) _ | refine Below.setCell ?_ (by first | omega | (simp; done) | (simp; omega) | fail) _ | refine Below.trans ?_ (Below.mono (by assumption) (by first | omega | (simp; done) | (simp; omega) | fail))))⟩
  · go_enter Try.func5, Try.ntmps5
    go_wp2_with fail
    refine (rsqrt_v _ _ E.out.2.2 E.out.1 _).mono ?_; rintro e w1 ⟨rfl, hb1⟩; have z1 := hb1.size
    go_wp2_with fail
    refine (rup_v _ _ E.out.2.2 E.out.2.1 _).mono ?_; rintro e w2 ⟨rfl, hb2⟩; have z2 := hb2.size
    go_wp2_with fail
    refine (mulDiv_v a b _ _ _ HA.out HB.out HC.out M.out.1 _).mono ?_; rintro e w3 ⟨rfl, hb3⟩; have z3 := hb3.size
    go_wp2_with fail
    refine (mulDivUp_v a b _ _ _ HA.out HB.out HC.out M.out.2 _).mono ?_; rintro e w4 ⟨rfl, hb4⟩; have z4 := hb4.size
    go_wp2_with fail
    refine (awake_c _).mono ?_; rintro e w5 ⟨rfl, hb5⟩
    go_wp2_with fail
    go_ret
    exact ⟨rfl, (by repeat (first | exact Below.refl _ _ | exact Below_of_hid (by assumption) | refine Below.drew ?_ | refine below_drewN ?_ _ | refine Below_putRow ?_ (by first | omega | (simp; done) | (simp; omega) | fail) _ _ | refine Below.alloc ?_ (by first | omega | (simp; done) | (simp; omega) | fail) _ | refine Below.setCell ?_ (by first | omega | (simp; done) | (simp; omega) | fail) _ | refine Below.trans ?_ (Below.mono (by assumption) (by first | omega | (simp; done) | (simp; omega) | fail))))⟩
  · go_enter Try.func5, Try.ntmps5
    go_wp2_with fail
    refine (rsqrt_v _ _ E.out.2.2 E.out.1 _).mono ?_; rintro e w1 ⟨rfl, hb1⟩; have z1 := hb1.size
    go_wp2_with fail
    refine (rup_v _ _ E.out.2.2 E.out.2.1 _).mono ?_; rintro e w2 ⟨rfl, hb2⟩; have z2 := hb2.size
    go_wp2_with fail
    refine (mulDiv_v a b _ _ _ HA.out HB.out HC.out M.out.1 _).mono ?_; rintro e w3 ⟨rfl, hb3⟩; have z3 := hb3.size
    go_wp2_with fail
    refine (mulDivUp_v a b _ _ _ HA.out HB.out HC.out M.out.2 _).mono ?_; rintro e w4 ⟨rfl, hb4⟩; have z4 := hb4.size
    go_wp2_with fail
    refine (awake_c _).mono ?_; rintro e w5 ⟨rfl, hb5⟩
    go_wp2_with fail
    go_ret
    exact ⟨rfl, (by repeat (first | exact Below.refl _ _ | exact Below_of_hid (by assumption) | refine Below.drew ?_ | refine below_drewN ?_ _ | refine Below_putRow ?_ (by first | omega | (simp; done) | (simp; omega) | fail) _ _ | refine Below.alloc ?_ (by first | omega | (simp; done) | (simp; omega) | fail) _ | refine Below.setCell ?_ (by first | omega | (simp; done) | (simp; omega) | fail) _ | refine Below.trans ?_ (Below.mono (by assumption) (by first | omega | (simp; done) | (simp; omega) | fail))))⟩
  · go_enter Try.func5, Try.ntmps5
    go_wp2_with fail
    refine (rsqrt_v _ _ E.out.2.2 E.out.1 _).mono ?_; rintro e w1 ⟨rfl, hb1⟩; have z1 := hb1.size
    go_wp2_with fail
    refine (rup_v _ _ E.out.2.2 E.out.2.1 _).mono ?_; rintro e w2 ⟨rfl, hb2⟩; have z2 := hb2.size
    go_wp2_with fail
    refine (mulDiv_v a b _ _ _ HA.out HB.out HC.out M.out.1 _).mono ?_; rintro e w3 ⟨rfl, hb3⟩; have z3 := hb3.size
    go_wp2_with fail
    refine (mulDivUp_v a b _ _ _ HA.out HB.out HC.out M.out.2 _).mono ?_; rintro e w4 ⟨rfl, hb4⟩; have z4 := hb4.size
    go_wp2_with fail
    refine (awake_c _).mono ?_; rintro e w5 ⟨rfl, hb5⟩
    go_wp2_with fail
    go_ret
    exact ⟨rfl, (by repeat (first | exact Below.refl _ _ | exact Below_of_hid (by assumption) | refine Below.drew ?_ | refine below_drewN ?_ _ | refine Below_putRow ?_ (by first | omega | (simp; done) | (simp; omega) | fail) _ _ | refine Below.alloc ?_ (by first | omega | (simp; done) | (simp; omega) | fail) _ | refine Below.setCell ?_ (by first | omega | (simp; done) | (simp; omega) | fail) _ | refine Below.trans ?_ (Below.mono (by assumption) (by first | omega | (simp; done) | (simp; omega) | fail))))⟩
  · have HP : Hid (-9223372036854775808 ≤ p ∧ p ≤ 9223372036854775807) := hp
    obtain ⟨ev, hev, hev2⟩ := evs (p * c) (a * b)
    have v1 : ev = 0 := hev2.2 hpc
    have HEV : Hid (((WI.of p).mul (WI.of c)).cmp ((WI.of a).mul (WI.of b)) = (0, true)) := by show _ = _; rw [ER.out hp, hev, v1]
    have g1 : q - p = 0 := by omega
    have g2 : (p == q) = true := by simp [hq]
    have g3 : decide (p = q) = true := decide_eq_true (by omega)
    clear hev hev2 v1 hpc hq hp evs
    go_enter Try.func5, Try.ntmps5
    go_wp2_with fail
    refine (rsqrt_v _ _ E.out.2.2 E.out.1 _).mono ?_; rintro e w1 ⟨rfl, hb1⟩; have z1 := hb1.size
    go_wp2_with fail
    refine (rup_v _ _ E.out.2.2 E.out.2.1 _).mono ?_; rintro e w2 ⟨rfl, hb2⟩; have z2 := hb2.size
    go_wp2_with fail
    refine (mulDiv_v a b _ _ _ HA.out HB.out HC.out M.out.1 _).mono ?_; rintro e w3 ⟨rfl, hb3⟩; have z3 := hb3.size
    go_wp2_with fail
    refine (mulDivUp_v a b _ _ _ HA.out HB.out HC.out M.out.2 _).mono ?_; rintro e w4 ⟨rfl, hb4⟩; have z4 := hb4.size
    go_wp2_with fail
    refine (of_c _ HP.out.1 HP.out.2 _).mono ?_; rintro e w5 ⟨rfl, hb5⟩; have z5 := hb5.size
    go_wp2_with fail
    refine (of_c _ HC.out.1 HC.out.2 _).mono ?_; rintro e w6 ⟨rfl, hb6⟩; have z6 := hb6.size
    go_wp2_with fail
    refine (mul_I _ _ _).mono ?_; rintro e w7 ⟨rfl, hb7⟩; have z7 := hb7.size
    go_wp2_with fail
    refine (of_c _ HA.out.1 HA.out.2 _).mono ?_; rintro e w8 ⟨rfl, hb8⟩; have z8 := hb8.size
    go_wp2_with fail
    refine (of_c _ HB.out.1 HB.out.2 _).mono ?_; rintro e w9 ⟨rfl, hb9⟩; have z9 := hb9.size
    go_wp2_with fail
    refine (mul_I _ _ _).mono ?_; rintro e wa ⟨rfl, hba⟩; have za := hba.size
    go_wp2_with fail
    refine (cmp_I _ _ _).mono ?_; rintro e wb ⟨rfl, hbb⟩; have zb := hbb.size; rw [HEV.out]
    go_wp2_with fail
    refine (awake_c _).mono ?_; rintro e wd ⟨rfl, hbd⟩
    go_wp2_with fail
    go_ret
    exact ⟨rfl, (by repeat (first | exact Below.refl _ _ | exact Below_of_hid (by assumption) | refine Below.drew ?_ | refine below_drewN ?_ _ | refine Below_putRow ?_ (by first | omega | (simp; done) | (simp; omega) | fail) _ _ | refine Below.alloc ?_ (by first | omega | (simp; done) | (simp; omega) | fail) _ | refine Below.setCell ?_ (by first | omega | (simp; done) | (simp; omega) | fail) _ | refine Below.trans ?_ (Below.mono (by assumption) (by first | omega | (simp; done) | (simp; omega) | fail))))⟩
  · have HP : Hid (-9223372036854775808 ≤ p ∧ p ≤ 9223372036854775807) := ⟨hp.1, by omega⟩
    obtain ⟨ev, hev, hev2⟩ := evs (p * c) (a * b)
    have v1 : ¬ ev = 0 := fun h => hpc (hev2.1 h)
    have HEV : Hid (((WI.of p).mul (WI.of c)).cmp ((WI.of a).mul (WI.of b)) = (ev, true)) := by show _ = _; rw [ER.out HP.out, hev]
    have v2 : (ev == 0) = false := by simp [v1]
    have g1 : q - p = 1 := by omega
    have g0 : ¬ p = q := by omega
    have g2 : (p == q) = false := by simp [g0]
    clear hev hev2 hpc hq hp evs
    go_enter Try.func5, Try.ntmps5
    go_wp2_with fail
    refine (rsqrt_v _ _ E.out.2.2 E.out.1 _).mono ?_; rintro e w1 ⟨rfl, hb1⟩; have z1 := hb1.size
    go_wp2_with fail
    refine (rup_v _ _ E.out.2.2 E.out.2.1 _).mono ?_; rintro e w2 ⟨rfl, hb2⟩; have z2 := hb2.size
    go_wp2_with fail
    refine (mulDiv_v a b _ _ _ HA.out HB.out HC.out M.out.1 _).mono ?_; rintro e w3 ⟨rfl, hb3⟩; have z3 := hb3.size
    go_wp2_with fail
    refine (mulDivUp_v a b _ _ _ HA.out HB.out HC.out M.out.2 _).mono ?_; rintro e w4 ⟨rfl, hb4⟩; have z4 := hb4.size
    go_wp2_with fail
    refine (of_c _ HP.out.1 HP.out.2 _).mono ?_; rintro e w5 ⟨rfl, hb5⟩; have z5 := hb5.size
    go_wp2_with fail
    refine (of_c _ HC.out.1 HC.out.2 _).mono ?_; rintro e w6 ⟨rfl, hb6⟩; have z6 := hb6.size
    go_wp2_with fail
    refine (mul_I _ _ _).mono ?_; rintro e w7 ⟨rfl, hb7⟩; have z7 := hb7.size
    go_wp2_with fail
    refine (of_c _ HA.out.1 HA.out.2 _).mono ?_; rintro e w8 ⟨rfl, hb8⟩; have z8 := hb8.size
    go_wp2_with fail
    refine (of_c _ HB.out.1 HB.out.2 _).mono ?_; rintro e w9 ⟨rfl, hb9⟩; have z9 := hb9.size
    go_wp2_with fail
    refine (mul_I _ _ _).mono ?_; rintro e wa ⟨rfl, hba⟩; have za := hba.size
    go_wp2_with fail
    refine (cmp_I _ _ _).mono ?_; rintro e wb ⟨rfl, hbb⟩; have zb := hbb.size; rw [HEV.out]
    go_wp2_with fail
    refine (awake_c _).mono ?_; rintro e wd ⟨rfl, hbd⟩
    go_wp2_with fail
    go_ret
    exact ⟨rfl, (by repeat (first | exact Below.refl _ _ | exact Below_of_hid (by assumption) | refine Below.drew ?_ | refine below_drewN ?_ _ | refine Below_putRow ?_ (by first | omega | (simp; done) | (simp; omega) | fail) _ _ | refine Below.alloc ?_ (by first | omega | (simp; done) | (simp; omega) | fail) _ | refine Below.setCell ?_ (by first | omega | (simp; done) | (simp; omega) | fail) _ | refine Below.trans ?_ (Below.mono (by assumption) (by first | omega | (simp; done) | (simp; omega) | fail))))⟩
end Go.Proofs.Ytkfdfgecfedeiaa
