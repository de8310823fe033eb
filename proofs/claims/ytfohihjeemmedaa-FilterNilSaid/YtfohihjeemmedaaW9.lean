/- The walks of math/bits' LeadingZeros64, Div64. -/
import Derived.Test.YtfohihjeemmedaaW8
import Derived.Test.YtfohihjeemmedaaD1
import Derived.Deep.CutBlock
namespace Go.Proofs.Ytfohihjeemmedaa
open Go.RowKit

set_option maxHeartbeats 400000 in
theorem lz64_c (y : Nat) (w : World) (hy : y < 18446744073709551616) :
    Calls Try.prog 109 #[.int .u64 (y : Int)] w fun e w' => e = .returned (.int .i64 ((64 - bl y : Nat) : Int)) ∧ w' = w := by
  have hb : bl y ≤ 64 := (bl_le_iff y 64).2 hy
  have E := Lib.hid hb
  have h1 : (bl y : Int) ≤ 64 := by omega
  clear hb
  go_enter Try.func109, Try.ntmps109
  go_wp2_with (go_at_call 107; refine (len64_c _ _ (by omega) (by omega)).mono ?_; rintro e w' ⟨rfl, rfl⟩; rw [show ((y : Int)).toNat = y by omega])
  go_ret
  exact ⟨ret_int (by have := E.out; omega), rfl⟩

theorem lz64_s (y s : Nat) (w : World) (hy : y < 18446744073709551616) (hs : s = 64 - bl y) :
    Calls Try.prog 109 #[.int .u64 (y : Int)] w fun e w' => e = .returned (.int .i64 (s : Int)) ∧ w' = w := by
  subst hs; exact lz64_c y w hy
theorem and_mask (x : Nat) (hx : x < 18446744073709551616) : bits .and .u64 (x : Int) 4294967295 = ((x % 4294967296 : Nat) : Int) := by
  have := bits_and_u64_nat x 4294967295 hx (by decide)
  rw [show (4294967295 : Nat) = 2 ^ 32 - 1 from rfl, Nat.and_two_pow_sub_one_eq_mod] at this
  exact this
theorem split32 (X L : Nat) : X * 18446744073709551616 + (L / 4294967296 * 4294967296 + L % 4294967296) = X * 18446744073709551616 + L := by
  rw [Nat.mul_comm (L / 4294967296), Nat.div_add_mod]
theorem wrap_nat (x : Nat) (hx : x < 18446744073709551616) : IntKind.u64.wrap (x : Int) = (x : Int) := by rw [IntKind.wrap_u64]; omega
theorem nat_tdiv (x a : Nat) : (x : Int).tdiv (a : Int) = ((x / a : Nat) : Int) := by
  rw [Int.tdiv_eq_ediv_of_nonneg (by omega), Int.natCast_ediv]
theorem wrap_mul (x y z : Nat) (h : z = x * y) (hz : z < 18446744073709551616) : IntKind.u64.wrap ((x : Int) * (y : Int)) = (z : Int) := by
  rw [← Int.natCast_mul, ← h]; exact wrap_nat z hz

set_option maxRecDepth 100000 in
set_option maxHeartbeats 2000000 in
theorem div64_c (h l y : Nat) (w : World) (hh : h < y) (hy : y < 18446744073709551616) (hl : l < 18446744073709551616) (h0 : h ≠ 0) :
    Calls Try.prog 108 #[.int .u64 (h : Int), .int .u64 (l : Int), .int .u64 (y : Int)] w fun e w' => e = .returned (.tuple #[.int .u64 (((h * 18446744073709551616 + l) / y : Nat) : Int), .int .u64 (((h * 18446744073709551616 + l) % y : Nat) : Int)]) ∧ Below w.heap.size w w' := by
  have HY := Lib.hid hy
  have i1 : ¬ ((y : Int) = 0) := by omega
  have i2 : ¬ (y : Int) ≤ (h : Int) := by omega
  have i3 : ¬ ((h : Int) = 0) := by omega
  obtain ⟨nb, n1, n2⟩ := norm_word y (by omega) hy
  obtain ⟨s, hs⟩ : ∃ s, s = 64 - bl y := ⟨_, rfl⟩
  rw [← hs] at n1 n2
  have HS := Lib.hid hs
  have hs64 : s ≤ 64 := by omega
  obtain ⟨g, hg⟩ : ∃ g, g = 64 - s := ⟨_, rfl⟩
  have z0 : 0 < bl y := bl_pos y (by omega)
  have z1 : IntKind.u64.wrap (s : Int) = (s : Int) := wrap_nat _ (by omega)
  have z2 : (s : Int) < 64 := by omega
  have z3 : s < 64 := by omega
  have z4 : IntKind.u64.wrap (64 - (s : Int)) = (g : Int) := by rw [IntKind.wrap_u64]; omega
  have z5 : min g 64 = g := by omega
  have z6 : min s 64 = s := by omega
  have z7 : (0 : Int) ≤ (s : Int) := by omega
  have z8 : (0 : Int) ≤ (g : Int) := by omega
  obtain ⟨m1, m2, m3⟩ := div64_shift h l y s hs64 n1 hh hl
  obtain ⟨Y, hY⟩ : ∃ Y, Y = y * 2 ^ s := ⟨_, rfl⟩
  obtain ⟨X, hX⟩ : ∃ X, X = h * 2 ^ s + l / 2 ^ (64 - s) := ⟨_, rfl⟩
  obtain ⟨L, hL⟩ : ∃ L, L = l * 2 ^ s % 18446744073709551616 := ⟨_, rfl⟩
  obtain ⟨Hs, hHs⟩ : ∃ Hs, Hs = h * 2 ^ s % 18446744073709551616 := ⟨_, rfl⟩
  have f1 : IntKind.u64.wrap ((y : Int) * 2 ^ s) = (Y : Int) := by rw [shl_u64, Nat.mod_eq_of_lt n1, hY]
  have f4a : IntKind.u64.wrap ((h : Int) * 2 ^ s) = (Hs : Int) := by rw [shl_u64, hHs]
  have f4 : bits .or .u64 (Hs : Int) ((l : Int) / 2 ^ g) = (X : Int) := by
    rw [hg, or_u64 Hs l (64 - s) l rfl (by rw [hHs]; exact mod64_lt _) hl, hHs, m1, hX]
  have f5 : IntKind.u64.wrap ((l : Int) * 2 ^ s) = (L : Int) := by rw [shl_u64, hL]
  rw [← hX, ← hL] at m3
  rw [← hX, ← hY] at m2
  rw [← hY] at n1 n2
  have hLl : L < 18446744073709551616 := by rw [hL]; exact mod64_lt _
  have E := Lib.hid (div64_parts h l y s X (L % 4294967296) (L / 4294967296) ((split32 X L).trans m3) (by omega) (by omega) (by rw [← hY]; exact m2))
  rw [← hY] at E
  obtain ⟨a, ha⟩ : ∃ a, a = Y / 4294967296 := ⟨_, rfl⟩
  obtain ⟨b, hb⟩ : ∃ b, b = Y % 4294967296 := ⟨_, rfl⟩
  obtain ⟨c, hc⟩ : ∃ c, c = L / 4294967296 := ⟨_, rfl⟩
  obtain ⟨d, hd⟩ : ∃ d, d = L % 4294967296 := ⟨_, rfl⟩
  rw [← hc, ← hd] at E
  have f2 : (Y : Int) / 4294967296 = (a : Int) := by omega
  have f3 : bits .and .u64 (Y : Int) 4294967295 = (b : Int) := by rw [and_mask Y n1, hb]
  have f6 : (L : Int) / 4294967296 = (c : Int) := by omega
  have f7 : bits .and .u64 (L : Int) 4294967295 = (d : Int) := by rw [and_mask L hLl, hd]
  have hYe : Y = a * 4294967296 + b := by omega
  have ba : 2147483648 ≤ a := by omega
  have ba2 : a < 4294967296 := by omega
  have bb : b < 4294967296 := by omega
  have bc : c < 4294967296 := by omega
  have bd : d < 4294967296 := by omega
  clear hY hX hL hHs m1 m3 hg z0 hs nb ha hb hc hd hLl
  have hX : X < a * 4294967296 + b := by omega
  have hXl : X < 18446744073709551616 := by omega
  have T0 := half_first X c a b ba bb bc hX
  obtain ⟨q0, hq0⟩ : ∃ q0, q0 = X / a := ⟨_, rfl⟩
  obtain ⟨r0, hr0⟩ : ∃ r0, r0 = X % a := ⟨_, rfl⟩
  rw [← hq0, ← hr0] at T0
  obtain ⟨p0, hp0⟩ : ∃ p0, p0 = q0 * a := ⟨_, rfl⟩
  have hr0a : r0 < a := by rw [hr0]; exact Nat.mod_lt _ (by omega)
  have t1 := T0.1
  have t3 := T0.2.2
  rw [← hp0] at t1
  have g1 : (X : Int).tdiv (a : Int) = (q0 : Int) := by rw [nat_tdiv, hq0]
  have g1' : (X : Int) / (a : Int) = (q0 : Int) := by rw [← Int.natCast_ediv, hq0]
  have g2 : IntKind.u64.wrap (q0 : Int) = (q0 : Int) := wrap_nat _ (by omega)
  have g3 : IntKind.u64.wrap ((q0 : Int) * (a : Int)) = (p0 : Int) := wrap_mul _ _ _ hp0 (by omega)
  have g4 : IntKind.u64.wrap ((X : Int) - (p0 : Int)) = (r0 : Int) := by rw [IntKind.wrap_u64]; omega
  have ia : ¬ (a : Int) = 0 := by omega
  have ia' : ((a : Int) == 0) = false := by simp; omega
  have HT0 := Lib.hid T0
  have HR0 := Lib.hid hr0a
  clear T0 t1 t3 hq0 hr0 hp0 hr0a
  have HB : Hid (2147483648 ≤ a ∧ a < 4294967296 ∧ b < 4294967296 ∧ c < 4294967296 ∧ d < 4294967296 ∧ X < a * 4294967296 + b ∧ X < 18446744073709551616 ∧ Y = a * 4294967296 + b ∧ Y < 18446744073709551616) := ⟨ba, ba2, bb, bc, bd, hX, hXl, hYe, n1⟩
  clear ba ba2 bb bc bd hX hXl hYe n1 n2 m2
  clear hh hl h0 hs64
  go_enter Try.func108, Try.ntmps108
  go_upto_block 0 with (go_at_call 109; refine (lz64_s _ s _ HY.out HS.out).mono ?_; rintro e w' ⟨rfl, rfl⟩)
  go_cut [15, 16] from 67 to 85 (fun s15 s16 wc => (∃ r : Nat, s16 = .int .u64 (r : Int)) ∧ s15 = .int .u64 (((X * 4294967296 + c) / Y : Nat) : Int) ∧ wc = w')
  case first =>
    go_wp2_with fail
    go_loop [15, 16] (fun s15 s16 => ∃ q r : Nat, s15 = .int .u64 (q : Int) ∧ s16 = .int .u64 (r : Int) ∧ r < 4294967296 ∧ Hid (Tried X c a b q r)) (fun s15 _ => (intOf s15).toNat)
    case atStart => exact ⟨q0, r0, rfl, rfl, by have := HR0.out; have := HB.out.2.1; omega, HT0⟩
    case round =>
      obtain ⟨q, r, rfl, rfl, hr, HT⟩ := hrel
      obtain ⟨ba, ba2, bb, bc, bd, hX, hXl, hYe, n1⟩ := HB.out
      have t3 := HT.out.2.2
      have hwy := half_ways X c a b q r Y HT.out hYe hX bc bb
      by_cases hg : 4294967296 ≤ q ∨ 4294967296 * r + c < q * b
      · obtain ⟨p, ra, hp, hra, T', hD⟩ := hwy.1 hg
        have HT' := Lib.hid T'
        have HD := Lib.hid hD
        have HP := Lib.hid hp
        have j1 : IntKind.u64.wrap ((q : Int) - 1) = (p : Int) := by rw [IntKind.wrap_u64]; omega
        have j2 : IntKind.u64.wrap ((r : Int) + (a : Int)) = (ra : Int) := by rw [IntKind.wrap_u64]; omega
        clear hwy T' hD hYe hX hXl n1
        by_cases hq : 4294967296 ≤ q
        · have j4 : (4294967296 : Int) ≤ (q : Int) := by omega
          clear hg hp hra t3
          by_cases hbr : 4294967296 ≤ ra
          · have j3 : (4294967296 : Int) ≤ (ra : Int) := by omega
            go_wp2_with fail
            go_meet
            exact ⟨⟨_, rfl⟩, by rw [← HD.out hbr], rfl⟩
          · have j3 : (ra : Int) < 4294967296 := by omega
            have j6 : ¬ (4294967296 : Int) ≤ (ra : Int) := by omega
            have j7 : decide ((4294967296 : Int) ≤ (ra : Int)) = false := by simp; omega
            clear hbr
            go_wp2_with fail
            go_round
            case rel => exact ⟨p, ra, rfl, rfl, by omega, HT'⟩
            case measure => have := HP.out; simp [intOf]; omega
        · obtain ⟨qb, hqb⟩ : ∃ qb, qb = q * b := ⟨_, rfl⟩
          have hqb2 : qb < 18446744073709551616 := by rw [hqb]; exact Nat.lt_of_lt_of_le (Nat.mul_lt_mul'' (Nat.lt_of_not_le hq) bb) (by decide)
          have hgt : 4294967296 * r + c < qb := by rw [hqb]; exact hg.resolve_left hq
          obtain ⟨hc2, hhc2⟩ : ∃ hc2, hc2 = 4294967296 * r + c := ⟨_, rfl⟩
          obtain ⟨hc1, hhc1⟩ : ∃ hc1, hc1 = 4294967296 * r := ⟨_, rfl⟩
          have k1 : IntKind.u64.wrap ((q : Int) * (b : Int)) = (qb : Int) := wrap_mul _ _ _ hqb hqb2
          have k2 : IntKind.u64.wrap (4294967296 * (r : Int)) = (hc1 : Int) := by rw [IntKind.wrap_u64]; omega
          have k3 : IntKind.u64.wrap ((hc1 : Int) + (c : Int)) = (hc2 : Int) := by rw [IntKind.wrap_u64]; omega
          have j4 : (q : Int) < 4294967296 := by omega
          have j5 : (hc2 : Int) < (qb : Int) := by omega
          clear hg hp hra t3 hqb hqb2 hgt hhc2 hhc1
          by_cases hbr : 4294967296 ≤ ra
          · have j3 : (4294967296 : Int) ≤ (ra : Int) := by omega
            go_wp2_with fail
            go_meet
            exact ⟨⟨_, rfl⟩, by rw [← HD.out hbr], rfl⟩
          · have j3 : (ra : Int) < 4294967296 := by omega
            have j6 : ¬ (4294967296 : Int) ≤ (ra : Int) := by omega
            have j7 : decide ((4294967296 : Int) ≤ (ra : Int)) = false := by simp; omega
            clear hbr
            go_wp2_with fail
            go_round
            case rel => exact ⟨p, ra, rfl, rfl, by omega, HT'⟩
            case measure => have := HP.out; simp [intOf]; omega
      · have HD := Lib.hid (hwy.2 hg)
        have hq : q < 4294967296 := by omega
        obtain ⟨qb, hqb⟩ : ∃ qb, qb = q * b := ⟨_, rfl⟩
        have hqb2 : qb < 18446744073709551616 := by rw [hqb]; exact Nat.lt_of_lt_of_le (Nat.mul_lt_mul'' hq bb) (by decide)
        have hgt : ¬ 4294967296 * r + c < qb := by rw [hqb]; exact fun h => hg (.inr h)
        obtain ⟨hc2, hhc2⟩ : ∃ hc2, hc2 = 4294967296 * r + c := ⟨_, rfl⟩
        obtain ⟨hc1, hhc1⟩ : ∃ hc1, hc1 = 4294967296 * r := ⟨_, rfl⟩
        have k1 : IntKind.u64.wrap ((q : Int) * (b : Int)) = (qb : Int) := wrap_mul _ _ _ hqb hqb2
        have k2 : IntKind.u64.wrap (4294967296 * (r : Int)) = (hc1 : Int) := by rw [IntKind.wrap_u64]; omega
        have k3 : IntKind.u64.wrap ((hc1 : Int) + (c : Int)) = (hc2 : Int) := by rw [IntKind.wrap_u64]; omega
        have j4 : (q : Int) < 4294967296 := by omega
        have j5 : (qb : Int) ≤ (hc2 : Int) := by omega
        have j8 : ¬ (4294967296 : Int) ≤ (q : Int) := by omega
        have j9 : ¬ hc2 < qb := by omega
        have j10 : ¬ 4294967296 ≤ q := by omega
        clear hg t3 hqb hqb2 hgt hhc2 hhc1 hwy hYe hX hXl n1 hq ba ba2 bb bc bd hr
        go_wp2_with fail
        go_meet
        exact ⟨⟨_, rfl⟩, by rw [← HD.out], rfl⟩
  case rest =>
    obtain ⟨⟨r, rfl⟩, rfl, hwc⟩ := hcut
    subst hwc
    obtain ⟨ba, ba2, bb, bc, bd, hX, hXl, hYe, n1⟩ := HB.out
    obtain ⟨Q, hQ⟩ : ∃ Q, Q = (X * 4294967296 + c) / Y := ⟨_, rfl⟩
    obtain ⟨R, hR⟩ : ∃ R, R = (X * 4294967296 + c) % Y := ⟨_, rfl⟩
    rw [← hQ, ← hR] at E
    rw [← hQ]
    have hdm := Nat.div_add_mod (X * 4294967296 + c) Y
    rw [← hQ, ← hR] at hdm
    have hRY : R < Y := by rw [hR]; exact Nat.mod_lt _ (by omega)
    have hQl : Q < 4294967296 := by rw [hQ, hYe]; exact half_lt X c a b bc hX
    obtain ⟨P, hP⟩ : ∃ P, P = Q * Y := ⟨_, rfl⟩
    rw [Nat.mul_comm, ← hP] at hdm
    obtain ⟨M1, hM1⟩ : ∃ M1, M1 = X * 4294967296 % 18446744073709551616 := ⟨_, rfl⟩
    obtain ⟨M2, hM2⟩ : ∃ M2, M2 = (M1 + c) % 18446744073709551616 := ⟨_, rfl⟩
    obtain ⟨P2, hP2⟩ : ∃ P2, P2 = P % 18446744073709551616 := ⟨_, rfl⟩
    have a1 : IntKind.u64.wrap ((X : Int) * 4294967296) = (M1 : Int) := by rw [IntKind.wrap_u64]; omega
    have a2 : IntKind.u64.wrap ((M1 : Int) + (c : Int)) = (M2 : Int) := by rw [IntKind.wrap_u64]; omega
    have a3 : IntKind.u64.wrap ((Q : Int) * (Y : Int)) = (P2 : Int) := by rw [← Int.natCast_mul, ← hP, IntKind.wrap_u64]; omega
    have a4 : IntKind.u64.wrap ((M2 : Int) - (P2 : Int)) = (R : Int) := by
      rw [IntKind.wrap_u64, ← rest_wrap X c P R Y hRY (by omega) hdm hXl bc, hM2, hM1, hP2]
      omega
    have T1 := half_first R d a b ba bb bd (by rw [← hYe]; exact hRY)
    obtain ⟨q1, hq1⟩ : ∃ q1, q1 = R / a := ⟨_, rfl⟩
    obtain ⟨r1, hr1⟩ : ∃ r1, r1 = R % a := ⟨_, rfl⟩
    rw [← hq1, ← hr1] at T1
    obtain ⟨p1, hp1⟩ : ∃ p1, p1 = q1 * a := ⟨_, rfl⟩
    have hr1a : r1 < a := by rw [hr1]; exact Nat.mod_lt _ (by omega)
    have t1 := T1.1
    have t3 := T1.2.2
    rw [← hp1] at t1
    have a5 : (R : Int).tdiv (a : Int) = (q1 : Int) := by rw [nat_tdiv, hq1]
    have a6 : (R : Int) / (a : Int) = (q1 : Int) := by rw [← Int.natCast_ediv, hq1]
    have a7 : IntKind.u64.wrap (q1 : Int) = (q1 : Int) := wrap_nat _ (by omega)
    have a8 : IntKind.u64.wrap ((q1 : Int) * (a : Int)) = (p1 : Int) := wrap_mul _ _ _ hp1 (by omega)
    have a9 : IntKind.u64.wrap ((R : Int) - (p1 : Int)) = (r1 : Int) := by rw [IntKind.wrap_u64]; omega
    have HT1 := Lib.hid T1
    have HR1 := Lib.hid hr1a
    have HRY : Hid (R < a * 4294967296 + b) := by show R < _; rw [← hYe]; exact hRY
    have HQL := Lib.hid hQl
    clear ba ba2 bb bc bd hX hXl hYe n1 hQ hR hdm hRY hQl hP hM1 hM2 hP2 T1 t1 t3 hq1 hr1 hp1 hr1a
    obtain ⟨wc1, hwc1⟩ : ∃ wc1 : World, wc1 = wc := ⟨_, rfl⟩
    go_upto_block 2 with fail
    go_cut [18, 16] from 102 to 120 (fun s15 s16 wc => (∃ r : Nat, s16 = .int .u64 (r : Int)) ∧ s15 = .int .u64 (((R * 4294967296 + d) / Y : Nat) : Int) ∧ wc = wc1)
    case first =>
      go_wp2_with fail
      go_loop [18, 16] (fun s15 s16 => ∃ q r : Nat, s15 = .int .u64 (q : Int) ∧ s16 = .int .u64 (r : Int) ∧ r < 4294967296 ∧ Hid (Tried R d a b q r)) (fun s15 _ => (intOf s15).toNat)
      case atStart => exact ⟨q1, r1, rfl, rfl, by have := HR1.out; have := HB.out.2.1; omega, HT1⟩
      case round =>
        obtain ⟨q, r, rfl, rfl, hr, HT⟩ := hrel
        obtain ⟨ba, ba2, bb, bc, bd, hX, hXl, hYe, n1⟩ := HB.out
        have t3 := HT.out.2.2
        have hwy := half_ways R d a b q r Y HT.out hYe HRY.out bd bb
        by_cases hg : 4294967296 ≤ q ∨ 4294967296 * r + d < q * b
        · obtain ⟨p, ra, hp, hra, T', hD⟩ := hwy.1 hg
          have HT' := Lib.hid T'
          have HD := Lib.hid hD
          have HP := Lib.hid hp
          have j1 : IntKind.u64.wrap ((q : Int) - 1) = (p : Int) := by rw [IntKind.wrap_u64]; omega
          have j2 : IntKind.u64.wrap ((r : Int) + (a : Int)) = (ra : Int) := by rw [IntKind.wrap_u64]; omega
          clear hwy T' hD hYe hX hXl n1
          by_cases hq : 4294967296 ≤ q
          · have j4 : (4294967296 : Int) ≤ (q : Int) := by omega
            clear hg hp hra t3
            by_cases hbr : 4294967296 ≤ ra
            · have j3 : (4294967296 : Int) ≤ (ra : Int) := by omega
              go_wp2_with fail
              go_meet
              exact ⟨⟨_, rfl⟩, by rw [← HD.out hbr], hwc1.symm⟩
            · have j3 : (ra : Int) < 4294967296 := by omega
              have j6 : ¬ (4294967296 : Int) ≤ (ra : Int) := by omega
              have j7 : decide ((4294967296 : Int) ≤ (ra : Int)) = false := by simp; omega
              clear hbr
              go_wp2_with fail
              go_round
              case rel => exact ⟨p, ra, rfl, rfl, by omega, HT'⟩
              case measure => have := HP.out; simp [intOf]; omega
          · obtain ⟨qb, hqb⟩ : ∃ qb, qb = q * b := ⟨_, rfl⟩
            have hqb2 : qb < 18446744073709551616 := by rw [hqb]; exact Nat.lt_of_lt_of_le (Nat.mul_lt_mul'' (Nat.lt_of_not_le hq) bb) (by decide)
            have hgt : 4294967296 * r + d < qb := by rw [hqb]; exact hg.resolve_left hq
            obtain ⟨hc2, hhc2⟩ : ∃ hc2, hc2 = 4294967296 * r + d := ⟨_, rfl⟩
            obtain ⟨hc1, hhc1⟩ : ∃ hc1, hc1 = 4294967296 * r := ⟨_, rfl⟩
            have k1 : IntKind.u64.wrap ((q : Int) * (b : Int)) = (qb : Int) := wrap_mul _ _ _ hqb hqb2
            have k2 : IntKind.u64.wrap (4294967296 * (r : Int)) = (hc1 : Int) := by rw [IntKind.wrap_u64]; omega
            have k3 : IntKind.u64.wrap ((hc1 : Int) + (d : Int)) = (hc2 : Int) := by rw [IntKind.wrap_u64]; omega
            have j4 : (q : Int) < 4294967296 := by omega
            have j5 : (hc2 : Int) < (qb : Int) := by omega
            clear hg hp hra t3 hqb hqb2 hgt hhc2 hhc1
            by_cases hbr : 4294967296 ≤ ra
            · have j3 : (4294967296 : Int) ≤ (ra : Int) := by omega
              go_wp2_with fail
              go_meet
              exact ⟨⟨_, rfl⟩, by rw [← HD.out hbr], hwc1.symm⟩
            · have j3 : (ra : Int) < 4294967296 := by omega
              have j6 : ¬ (4294967296 : Int) ≤ (ra : Int) := by omega
              have j7 : decide ((4294967296 : Int) ≤ (ra : Int)) = false := by simp; omega
              clear hbr
              go_wp2_with fail
              go_round
              case rel => exact ⟨p, ra, rfl, rfl, by omega, HT'⟩
              case measure => have := HP.out; simp [intOf]; omega
        · have HD := Lib.hid (hwy.2 hg)
          have hq : q < 4294967296 := by omega
          obtain ⟨qb, hqb⟩ : ∃ qb, qb = q * b := ⟨_, rfl⟩
          have hqb2 : qb < 18446744073709551616 := by rw [hqb]; exact Nat.lt_of_lt_of_le (Nat.mul_lt_mul'' hq bb) (by decide)
          have hgt : ¬ 4294967296 * r + d < qb := by rw [hqb]; exact fun h => hg (.inr h)
          obtain ⟨hc2, hhc2⟩ : ∃ hc2, hc2 = 4294967296 * r + d := ⟨_, rfl⟩
          obtain ⟨hc1, hhc1⟩ : ∃ hc1, hc1 = 4294967296 * r := ⟨_, rfl⟩
          have k1 : IntKind.u64.wrap ((q : Int) * (b : Int)) = (qb : Int) := wrap_mul _ _ _ hqb hqb2
          have k2 : IntKind.u64.wrap (4294967296 * (r : Int)) = (hc1 : Int) := by rw [IntKind.wrap_u64]; omega
          have k3 : IntKind.u64.wrap ((hc1 : Int) + (d : Int)) = (hc2 : Int) := by rw [IntKind.wrap_u64]; omega
          have j4 : (q : Int) < 4294967296 := by omega
          have j5 : (qb : Int) ≤ (hc2 : Int) := by omega
          have j8 : ¬ (4294967296 : Int) ≤ (q : Int) := by omega
          have j9 : ¬ hc2 < qb := by omega
          have j10 : ¬ 4294967296 ≤ q := by omega
          clear hg t3 hqb hqb2 hgt hhc2 hhc1 hwy hYe hX hXl n1 hq ba ba2 bb bc bd hr
          go_wp2_with fail
          go_meet
          exact ⟨⟨_, rfl⟩, by rw [← HD.out], hwc1.symm⟩
    case rest =>
      obtain ⟨⟨r2, rfl⟩, rfl, rfl⟩ := hcut
      obtain ⟨ba, ba2, bb, bc, bd, hX, hXl, hYe, n1⟩ := HB.out
      obtain ⟨Q2, hQ2⟩ : ∃ Q2, Q2 = (R * 4294967296 + d) / Y := ⟨_, rfl⟩
      obtain ⟨R2, hR2⟩ : ∃ R2, R2 = (R * 4294967296 + d) % Y := ⟨_, rfl⟩
      rw [← hQ2, ← hR2] at E
      rw [← hQ2]
      have hdm := Nat.div_add_mod (R * 4294967296 + d) Y
      rw [← hQ2, ← hR2] at hdm
      have hRY2 : R2 < Y := by rw [hR2]; exact Nat.mod_lt _ (by omega)
      have hQl2 : Q2 < 4294967296 := by rw [hQ2, hYe]; exact half_lt R d a b bd HRY.out
      have hQL := HQL.out
      have hRl : R < 18446744073709551616 := by have := HRY.out; omega
      obtain ⟨P, hP⟩ : ∃ P, P = Q2 * Y := ⟨_, rfl⟩
      rw [Nat.mul_comm, ← hP] at hdm
      obtain ⟨N1, hN1⟩ : ∃ N1, N1 = R * 4294967296 % 18446744073709551616 := ⟨_, rfl⟩
      obtain ⟨N2, hN2⟩ : ∃ N2, N2 = (N1 + d) % 18446744073709551616 := ⟨_, rfl⟩
      obtain ⟨P3, hP3⟩ : ∃ P3, P3 = P % 18446744073709551616 := ⟨_, rfl⟩
      obtain ⟨Q3, hQ3⟩ : ∃ Q3, Q3 = Q * 4294967296 := ⟨_, rfl⟩
      obtain ⟨Q4, hQ4⟩ : ∃ Q4, Q4 = Q3 + Q2 := ⟨_, rfl⟩
      obtain ⟨R3, hR3⟩ : ∃ R3, R3 = R2 / 2 ^ s := ⟨_, rfl⟩
      have b1 : IntKind.u64.wrap ((R : Int) * 4294967296) = (N1 : Int) := by rw [IntKind.wrap_u64]; omega
      have b2 : IntKind.u64.wrap ((N1 : Int) + (d : Int)) = (N2 : Int) := by rw [IntKind.wrap_u64]; omega
      have b3 : IntKind.u64.wrap ((Q2 : Int) * (Y : Int)) = (P3 : Int) := by rw [← Int.natCast_mul, ← hP, IntKind.wrap_u64]; omega
      have b4 : IntKind.u64.wrap ((N2 : Int) - (P3 : Int)) = (R2 : Int) := by
        rw [IntKind.wrap_u64, ← rest_wrap R d P R2 Y hRY2 (by omega) hdm hRl bd, hN2, hN1, hP3]
        omega
      have b5 : IntKind.u64.wrap ((Q : Int) * 4294967296) = (Q3 : Int) := by rw [IntKind.wrap_u64]; omega
      have b6 : IntKind.u64.wrap ((Q3 : Int) + (Q2 : Int)) = (Q4 : Int) := by rw [IntKind.wrap_u64]; omega
      have b7 : (R2 : Int) / 2 ^ s = (R3 : Int) := by rw [hR3]; exact shr_u64 _ _ _ rfl
      have E1 : Hid (Q4 = (h * 18446744073709551616 + l) / y) := by show Q4 = _; rw [hQ4, hQ3]; exact E.out.1
      have E2 : Hid (R3 = (h * 18446744073709551616 + l) % y) := by show R3 = _; rw [hR3]; exact E.out.2
      clear ba ba2 bb bc bd hX hXl hYe n1 hQ2 hR2 hdm hRY2 hQl2 hQL hRl hP hN1 hN2 hP3 hQ3 hQ4 hR3 E
      go_wp2
      go_ret2
      exact ⟨by rw [← E1.out, ← E2.out]; rfl, Below.refl _ _⟩
end Go.Proofs.Ytfohihjeemmedaa
