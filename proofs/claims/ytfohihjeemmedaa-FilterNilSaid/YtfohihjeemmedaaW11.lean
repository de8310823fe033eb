/- The walk of package wide's step: one digit of a quotient. -/
import Derived.Test.YtfohihjeemmedaaW10
import Derived.BigRegion
namespace Go.Proofs.Ytfohihjeemmedaa
open Go.RowKit

/-- What the trial digit keeps. -/
def Dig0 (U W v1 D l u01 : Nat) : Prop := D * v1 + l = u01 ∧ U / W ≤ D ∧ D < 18446744073709551616
theorem below_of_regrown' {w w' : World} (h : ∃ p : Regrown, w' = Go.Sort.grow (redrawn w p.d) p.os) : Below w.heap.size w w' := by
  obtain ⟨⟨d, os⟩, rfl⟩ := h; exact below_regrown w d os
theorem split_word (x : Nat) : x / 18446744073709551616 * 18446744073709551616 + x % 18446744073709551616 = x := by rw [Nat.mul_comm]; exact Nat.div_add_mod _ _
theorem ms_digit (x y c : Nat) (hx : x < 18446744073709551616) (hy : y < 18446744073709551616) (hc : c < 18446744073709551616) :
    ∃ H L l c1 c' : Nat, H = x * y / 18446744073709551616 ∧ L = x * y % 18446744073709551616 ∧ L < 18446744073709551616 ∧ l = (L + c) % 18446744073709551616 ∧ c1 = (L + c) / 18446744073709551616 ∧ c' = H + c1 ∧ c' < 18446744073709551616 ∧ l < 18446744073709551616 ∧ x * y + c = c' * 18446744073709551616 + l := by
  refine ⟨_, _, _, _, _, rfl, rfl, Nat.mod_lt _ (by decide), rfl, rfl, rfl, ?_, Nat.mod_lt _ (by decide), ?_⟩
  all_goals
    have hxy : x * y ≤ 18446744073709551615 * 18446744073709551615 := Nat.mul_le_mul (by omega) (by omega)
    generalize x * y = p at *
    omega
theorem sub64_v (X Y b t b' : Nat) (hX : X < 18446744073709551616) (hY : Y < 18446744073709551616) (hb : b ≤ 1) (hb' : b' = if X < Y + b then 1 else 0) (ht : t + Y + b = X + b' * 18446744073709551616) (w : World) :
    (callFunc 106 #[.int .u64 (X : Int), .int .u64 (Y : Int), .int .u64 (b : Int)]).run Try.prog w = .ok (.value (.tuple #[.int .u64 (t : Int), .int .u64 (b' : Int)])) w := by
  rw [sub64 X Y b (by omega) (by omega) (by omega) (by omega) (by omega)]
  have e1 : (X : Int) - Y - b = (t : Int) - b' * 18446744073709551616 := by omega
  have e2 : ((X : Int) - Y - b) % 18446744073709551616 = (t : Int) := by
    have : b' ≤ 1 := by rw [hb']; split <;> omega
    have ht2 : t < 18446744073709551616 := by
      rw [hb'] at ht; split at ht <;> omega
    omega
  have e3 : (if (X : Int) < (Y : Int) + (b : Int) then (1 : Int) else 0) = (b' : Int) := by
    rw [hb']; split <;> split <;> omega
  rw [e2, e3]
theorem sub_step (X Y b : Nat) (hX : X < 18446744073709551616) (hY : Y < 18446744073709551616) (hb : b ≤ 1) :
    ∃ t b' : Nat, b' = (if X < Y + b then 1 else 0) ∧ b' ≤ 1 ∧ t < 18446744073709551616 ∧ t + Y + b = X + b' * 18446744073709551616 := by
  by_cases h : X < Y + b
  · exact ⟨X + 18446744073709551616 - Y - b, 1, by rw [if_pos h], by omega, by omega, by omega⟩
  · exact ⟨X - Y - b, 0, by rw [if_neg h], by omega, by omega, by omega⟩
theorem add64_w (X Y c t c' : Nat) (hX : X < 18446744073709551616) (hY : Y < 18446744073709551616) (hc : c ≤ 1) (ht : t = (X + Y + c) % 18446744073709551616) (hc' : c' = (X + Y + c) / 18446744073709551616) (w : World) :
    (callFunc 85 #[.int .u64 (X : Int), .int .u64 (Y : Int), .int .u64 (c : Int)]).run Try.prog w = .ok (.value (.tuple #[.int .u64 (t : Int), .int .u64 (c' : Int)])) w := by
  rw [add64 X Y c (by omega) (by omega) (by omega) (by omega) (by omega) (by omega), ht, hc']
  congr 5 <;> omega

set_option maxRecDepth 100000 in
set_option maxHeartbeats 4000000 in
theorem step_c (bu bv U V n j L capu capv : Nat) (w : World) (hn : 2 ≤ n) (hn16 : j + n ≤ 16) (hL : L = n + 1) (hcu : L ≤ capu) (hcv : n ≤ capv) (hV : V < 2 ^ (64 * n)) (hv1 : wdn V (n - 1) ≠ 0) (hU : U < V * 2 ^ (64 * (j + 1)))
    (hbu : Blk w bu (rowW 17 U) 155) (hbv : Blk w bv (rowW 16 V) 66) (hne : bv < bu) :
    Calls Try.prog 110 #[.slice (some ⟨bu, j, none⟩) L capu, .slice (some ⟨bv, 0, none⟩) (n : Nat) capv] w fun e w' => e = .returned (.int .u64 ((U / (V * 2 ^ (64 * j)) : Nat) : Int)) ∧ Below bu w w' ∧ Blk w' bu (rowW 17 (U % (V * 2 ^ (64 * j)))) 155 := by
  obtain ⟨m, hm⟩ : ∃ m, n = m + 2 := ⟨n - 2, by omega⟩
  obtain ⟨p, hp⟩ : ∃ p, p = m + 1 := ⟨_, rfl⟩
  obtain ⟨W, hW⟩ : ∃ W, W = V * 2 ^ (64 * j) := ⟨_, rfl⟩
  have hV0 : 0 < V := by
    rcases Nat.eq_zero_or_pos V with h | h
    · rw [h] at hv1; exact absurd (wdn_zero _) hv1
    · exact h
  have hW0 : 0 < W := by rw [hW]; exact Nat.mul_pos hV0 (Nat.two_pow_pos _)
  have hUl : U < 2 ^ (64 * (j + m + 3)) := by
    refine Nat.lt_of_lt_of_le hU ?_
    have := Nat.mul_le_mul_right (2 ^ (64 * (j + 1))) (Nat.le_of_lt hV)
    refine Nat.le_trans this ?_
    rw [← Nat.pow_add]; exact pow2_le _ _ (by omega)
  have hQ : U / W < 18446744073709551616 := by rw [hW]; exact digit_lt U V j hV0 hU
  obtain ⟨v1, hv1e⟩ : ∃ v1, v1 = wdn V p := ⟨_, rfl⟩
  obtain ⟨v2, hv2e⟩ : ∃ v2, v2 = wdn V m := ⟨_, rfl⟩
  obtain ⟨u0, hu0e⟩ : ∃ u0, u0 = wdn U (j + n) := ⟨_, rfl⟩
  obtain ⟨u1, hu1e⟩ : ∃ u1, u1 = wdn U (j + p) := ⟨_, rfl⟩
  obtain ⟨u2, hu2e⟩ : ∃ u2, u2 = wdn U (j + m) := ⟨_, rfl⟩
  have h1 := top_le1 V n j (by omega)
  have h2 := top_le2 V n j (by omega) hV
  rw [show n - 1 = p by omega, show j + n - 1 = j + p by omega, ← hv1e, ← hW] at h1
  rw [show n - 1 = p by omega, show n - 2 = m by omega, show j + n - 2 = j + m by omega, ← hv1e, ← hv2e, ← hW] at h2
  rw [show n - 1 = p by omega, ← hv1e] at hv1
  have hE1 := Lib.hid (est1 U W (j + p) v1 (by omega) (by rw [show j + p + 2 = j + m + 3 by omega]; exact hUl) h1)
  have hE2 : Hid (∀ d l, d * v1 + l = u0 * 18446744073709551616 + u1 → l * 18446744073709551616 + u2 < d * v2 → U / W < d) := by
    intro d l ha hb
    refine est2 U W (j + m) v1 v2 d l (by omega) hUl h2 ?_ ?_
    · rw [ha, hu0e, hu1e, show j + m + 2 = j + n by omega, show j + m + 1 = j + p by omega]
    · rw [← hu2e]; exact hb
  rw [show j + p + 1 = j + n by omega, ← hu0e, ← hu1e] at hE1
  have lv1 : v1 < 18446744073709551616 := by rw [hv1e]; exact wdn_lt _ _
  have lv2 : v2 < 18446744073709551616 := by rw [hv2e]; exact wdn_lt _ _
  have lu0 : u0 < 18446744073709551616 := by rw [hu0e]; exact wdn_lt _ _
  have lu1 : u1 < 18446744073709551616 := by rw [hu1e]; exact wdn_lt _ _
  have lu2 : u2 < 18446744073709551616 := by rw [hu2e]; exact wdn_lt _ _
  have c0 : w.cell? ⟨bu, j + n, none⟩ = some (.int .u64 (u0 : Int)) := by rw [hu0e]; exact hbu.cell (rowW_get' 17 U _ (by omega))
  have c1 : w.cell? ⟨bu, j + p, none⟩ = some (.int .u64 (u1 : Int)) := by rw [hu1e]; exact hbu.cell (rowW_get' 17 U _ (by omega))
  have c2 : w.cell? ⟨bu, j + m, none⟩ = some (.int .u64 (u2 : Int)) := by rw [hu2e]; exact hbu.cell (rowW_get' 17 U _ (by omega))
  have d1 : w.cell? ⟨bv, 0 + p, none⟩ = some (.int .u64 (v1 : Int)) := by rw [hv1e, Nat.zero_add]; exact hbv.cell (rowW_get' 16 V _ (by omega))
  have d2 : w.cell? ⟨bv, 0 + m, none⟩ = some (.int .u64 (v2 : Int)) := by rw [hv2e, Nat.zero_add]; exact hbv.cell (rowW_get' 16 V _ (by omega))
  have d1' : w.cell? ⟨bv, p, none⟩ = some (.int .u64 (v1 : Int)) := by rw [Nat.zero_add] at d1; exact d1
  have d2' : w.cell? ⟨bv, m, none⟩ = some (.int .u64 (v2 : Int)) := by rw [Nat.zero_add] at d2; exact d2
  have n1 : IntKind.i64.wrap ((n : Int) - 1) = (p : Int) := by rw [IntKind.wrap_i64]; omega
  have n2 : IntKind.i64.wrap ((n : Int) - 2) = (m : Int) := by rw [IntKind.wrap_i64]; omega
  have n3 : wrap64 ((n : Int) - 1) = (p : Int) := by unfold wrap64; omega
  have n4 : wrap64 ((n : Int) - 2) = (m : Int) := by unfold wrap64; omega
  have n5 : (n : Int) - 1 = (p : Int) := by omega
  have n6 : (n : Int) - 2 = (m : Int) := by omega
  have p1 : IntKind.i64.wrap (p : Int) = (p : Int) := by rw [IntKind.wrap_i64]; omega
  have p2 : IntKind.i64.wrap (m : Int) = (m : Int) := by rw [IntKind.wrap_i64]; omega
  have p3 : IntKind.i64.wrap (n : Int) = (n : Int) := by rw [IntKind.wrap_i64]; omega
  have o1 : (p : Int) < (n : Int) := by omega
  have o2 : (m : Int) < (n : Int) := by omega
  have o3 : (0 : Int) ≤ (p : Int) := by omega
  have o4 : (0 : Int) ≤ (m : Int) := by omega
  have o5 : (n : Int) < (L : Int) := by omega
  have o6 : (p : Int) < (L : Int) := by omega
  have o7 : (m : Int) < (L : Int) := by omega
  have o8 : n ≤ capu := by omega
  have o9 : p ≤ capu := by omega
  have o10 : m ≤ capu := by omega
  have o11 : p ≤ capv := by omega
  have o12 : m ≤ capv := by omega
  have o14 : (n : Int) ≤ 16 := by omega
  have o13 : (0 : Int) ≤ (n : Int) := by omega
  have HALL : Hid (n = m + 2 ∧ p = m + 1 ∧ j + n ≤ 16 ∧ W = V * 2 ^ (64 * j) ∧ 0 < W ∧ V < 2 ^ (64 * n) ∧ U < 2 ^ (64 * (j + n + 1)) ∧ U / W < 18446744073709551616 ∧ 0 < v1) := ⟨hm, hp, hn16, hW, hW0, hV, by rw [show j + n + 1 = j + m + 3 by omega]; exact hUl, hQ, by omega⟩
  have HL : Hid (v1 < 18446744073709551616 ∧ v2 < 18446744073709551616 ∧ u0 < 18446744073709551616 ∧ u1 < 18446744073709551616 ∧ u2 < 18446744073709551616) := ⟨lv1, lv2, lu0, lu1, lu2⟩
  rw [← hW]
  have HBU := Lib.hid hbu
  have HBV := Lib.hid hbv
  have HNE := Lib.hid hne
  clear hm hp hn16 hW hW0 hV hUl hQ hV0 hU lv1 lv2 lu0 lu1 lu2 hv1e hv2e hu0e hu1e hu2e h1 h2 hn hv1 hbu hbv hne hcu hcv hL
  go_enter Try.func110, Try.ntmps110
  go_upto_region 3 with fail
  have HC : Hid (∀ wx, Below w.heap.size w wx → wx.cell? ⟨bu, j + n, none⟩ = some (.int .u64 (u0 : Int)) ∧ wx.cell? ⟨bu, j + p, none⟩ = some (.int .u64 (u1 : Int)) ∧ wx.cell? ⟨bu, j + m, none⟩ = some (.int .u64 (u2 : Int)) ∧ wx.cell? ⟨bv, p, none⟩ = some (.int .u64 (v1 : Int)) ∧ wx.cell? ⟨bv, m, none⟩ = some (.int .u64 (v2 : Int))) :=
    fun wx hb => ⟨(hb.cell (p := ⟨bu, j + n, none⟩) HBU.out.lt).trans c0, (hb.cell (p := ⟨bu, j + p, none⟩) HBU.out.lt).trans c1, (hb.cell (p := ⟨bu, j + m, none⟩) HBU.out.lt).trans c2, (hb.cell (p := ⟨bv, p, none⟩) HBV.out.lt).trans d1', (hb.cell (p := ⟨bv, m, none⟩) HBV.out.lt).trans d2'⟩
  clear d1 d2
  replace c0 := cell_regrown c0
  replace c1 := cell_regrown c1
  replace c2 := cell_regrown c2
  replace d1' := cell_regrown d1'
  replace d2' := cell_regrown d2'
  refine wp_region_quiet_below (by kernel_rfl) (by kernel_rfl) ?_
  repeat (go_big_quiet_step (fail))
  refine wpQuiet_nil ?_
  intro wq hwq
  have hbq := below_of_regrown' hwq
  clear hwq c0 c1 c2 d1' d2'
  have HBQ := Lib.hid hbq
  clear hbq
  go_upto_if 30 with fail
  go_cut [6] from 7 to 89 (fun s6 wc => ∃ D : Nat, s6 = .int .u64 (D : Int) ∧ Hid (U / W ≤ D ∧ D < 18446744073709551616) ∧ Hid (Below w.heap.size w wc))
  case first =>
    by_cases hlt : u0 < v1
    · have HLT := Lib.hid hlt
      have hdec : decide (u0 < v1) = true := decide_eq_true hlt
      simp only [hdec]
      clear hdec
      obtain ⟨q, hq⟩ : ∃ q, q = (u0 * 18446744073709551616 + u1) / v1 := ⟨_, rfl⟩
      obtain ⟨r, hr⟩ : ∃ r, r = (u0 * 18446744073709551616 + u1) % v1 := ⟨_, rfl⟩
      have hT : Hid (q * v1 + r = u0 * 18446744073709551616 + u1 ∧ U / W ≤ q ∧ q < 18446744073709551616 ∧ r < 18446744073709551616) := by
        refine ⟨by rw [hq, hr, Nat.mul_comm]; exact Nat.div_add_mod _ _, by rw [hq]; exact hE1.out, ?_, ?_⟩
        · rw [hq, Nat.div_lt_iff_lt_mul (by omega)]
          have h1 := Nat.mul_le_mul_right 18446744073709551616 hlt
          have h2 := HL.out.2.2.2.1
          rw [Nat.mul_comm 18446744073709551616]
          have h3 : (u0 + 1) * 18446744073709551616 = u0 * 18446744073709551616 + 18446744073709551616 := by rw [Nat.add_mul]
          have h4 : u0.succ * 18446744073709551616 = (u0 + 1) * 18446744073709551616 := rfl
          omega
        · have h5 : r < v1 := by rw [hr]; exact Nat.mod_lt _ (by omega)
          have h6 := HL.out.1
          omega
      have HQ := Lib.hid hq
      have HR := Lib.hid hr
      clear hq hr
      go_upto_region 5 with fail
      obtain ⟨c0, c1, c2, d1, d2⟩ := HC.out wq HBQ.out
      replace c0 := cell_regrown c0
      replace c1 := cell_regrown c1
      replace d1 := cell_regrown d1
      clear c2 d2
      refine wp_region_quiet_below (by kernel_rfl) (by kernel_rfl) ?_
      repeat (go_big_quiet_step (exact Calls.regrown_of (div64_g u0 u1 v1 q r _ HLT.out HL.out.1 HL.out.2.2.2.1 HQ.out HR.out)))
      refine wpQuiet_nil ?_
      intro wr hwr
      have hbr := below_of_regrown' hwr
      have HBR : Hid (Below w.heap.size w wr) := HBQ.out.trans (hbr.mono HBQ.out.size)
      clear hwr hbr c0 c1 d1 hlt
      go_wp2_with fail
      go_loopw [6, 7, 8, 9, 10] (fun s6 s7 _ _ _ wx => ∃ D l : Nat, s6 = .int .u64 (D : Int) ∧ s7 = .int .u64 (l : Int) ∧ Hid (D * v1 + l = u0 * 18446744073709551616 + u1 ∧ U / W ≤ D ∧ D < 18446744073709551616 ∧ l < 18446744073709551616) ∧ Hid (Below w.heap.size w wx)) (fun s6 _ _ _ _ _ => (intOf s6).toNat)
      case atStart => exact ⟨q, r, rfl, rfl, hT, HBR⟩
      case round =>
        obtain ⟨D, l, rfl, rfl, HT, HBX⟩ := hrel
        obtain ⟨wx, hwx⟩ : ∃ wx : World, wx = wr := ⟨_, rfl⟩
        obtain ⟨c0, c1, c2, d1, d2⟩ := HC.out wr HBX.out
        clear c0 c1
        obtain ⟨H, hH⟩ : ∃ H, H = D * v2 / 18446744073709551616 := ⟨_, rfl⟩
        obtain ⟨Lo, hLo⟩ : ∃ Lo, Lo = D * v2 % 18446744073709551616 := ⟨_, rfl⟩
        have hdm : H * 18446744073709551616 + Lo = D * v2 := by rw [hH, hLo]; exact split_word _
        have hLol : Lo < 18446744073709551616 := by rw [hLo]; exact mod64_lt _
        have HH := Lib.hid hH
        have HLO := Lib.hid hLo
        have hlb := HL.out.2.2.2.2
        have hll := HT.out.2.2.2
        clear hH hLo
        by_cases hA : H < l
        · clear hdm hLol hlb hll
          go_wp2_with (go_at_call 84; refine (mul64_v D v2 H Lo HT.out.2.2.1 HL.out.2.1 HH.out HLO.out _).mono ?_; rintro e w' ⟨rfl, rfl⟩)
          go_meet
          exact ⟨D, rfl, ⟨HT.out.2.1, HT.out.2.2.1⟩, HBX⟩
        · by_cases hB : H = l ∧ Lo ≤ u2
          · obtain ⟨rfl, hB⟩ := hB
            clear hdm hLol hlb hll
            go_wp2_with (go_at_call 84; refine (mul64_v D v2 H Lo HT.out.2.2.1 HL.out.2.1 HH.out HLO.out _).mono ?_; rintro e w' ⟨rfl, rfl⟩)
            go_meet
            exact ⟨D, rfl, ⟨HT.out.2.1, HT.out.2.2.1⟩, HBX⟩
          · have hgt : l * 18446744073709551616 + u2 < D * v2 := by
              rw [← hdm]
              rcases Nat.lt_or_ge l H with h | h
              · have := Nat.mul_le_mul_right 18446744073709551616 (show l + 1 ≤ H from h)
                rw [Nat.add_mul] at this; omega
              · have hHl : H = l := by omega
                rw [hHl]
                have : ¬ Lo ≤ u2 := fun h => hB ⟨hHl, h⟩
                omega
            have hlt := hE2.out D l HT.out.1 hgt
            have h0 := Nat.lt_of_le_of_lt (Nat.zero_le _) hlt
            obtain ⟨D', hD'⟩ : ∃ D', D = D' + 1 := ⟨D - 1, by omega⟩
            obtain ⟨l', hl'⟩ : ∃ l', l' = (l + v1) % 18446744073709551616 := ⟨_, rfl⟩
            obtain ⟨k, hk⟩ : ∃ k, k = (l + v1) / 18446744073709551616 := ⟨_, rfl⟩
            have hDl := HT.out.2.2.1
            have hT1 := HT.out.1
            have b1 : IntKind.u64.wrap ((D : Int) - 1) = (D' : Int) := by rw [IntKind.wrap_u64]; omega
            have b2 := fun w => add64_v l v1 l' k hll HL.out.1 hl' hk w
            have HD' : Hid (U / W ≤ D' ∧ D' < 18446744073709551616) := ⟨by rw [hD'] at hlt; exact Nat.le_of_lt_succ hlt, by omega⟩
            have HM : Hid (D' < D) := by show D' < D; omega
            have HK : Hid (k = 0 → D' * v1 + l' = u0 * 18446744073709551616 + u1 ∧ U / W ≤ D' ∧ D' < 18446744073709551616 ∧ l' < 18446744073709551616) := by
              intro hk0
              refine ⟨?_, HD'.out.1, HD'.out.2, by rw [hl']; exact mod64_lt _⟩
              have e : D * v1 = D' * v1 + v1 := by rw [hD', Nat.add_mul, Nat.one_mul]
              rw [e] at hT1
              have : l + v1 < 18446744073709551616 := by omega
              rw [hl', Nat.mod_eq_of_lt this]; omega
            clear hdm hlb hlt h0 hD' hl' hk hDl hT1 hgt
            by_cases hk0 : k = 0
            · subst hk0
              have HKK := Lib.hid (HK.out rfl)
              clear HK
              by_cases hHl : H = l
              · subst hHl
                have hB' : ¬ Lo ≤ u2 := fun h => hB ⟨rfl, h⟩
                clear hB hll hLol
                go_wp2_with (go_at_call 84; refine (mul64_v D v2 H Lo HT.out.2.2.1 HL.out.2.1 HH.out HLO.out _).mono ?_; rintro e w' ⟨rfl, rfl⟩)
                go_roundw
                case rel => exact ⟨D', l', rfl, rfl, HKK, HBX⟩
                case measure => have := HM.out; simp [intOf]; omega
              · have e1 : ¬ (H : Int) = (l : Int) := by omega
                clear hB hll hLol
                go_wp2_with (go_at_call 84; refine (mul64_v D v2 H Lo HT.out.2.2.1 HL.out.2.1 HH.out HLO.out _).mono ?_; rintro e w' ⟨rfl, rfl⟩)
                go_roundw
                case rel => exact ⟨D', l', rfl, rfl, HKK, HBX⟩
                case measure => have := HM.out; simp [intOf]; omega
            · have hk1 : 0 < k := by omega
              clear hk0
              by_cases hHl : H = l
              · subst hHl
                have hB' : ¬ Lo ≤ u2 := fun h => hB ⟨rfl, h⟩
                clear hB hll hLol
                go_wp2_with (go_at_call 84; refine (mul64_v D v2 H Lo HT.out.2.2.1 HL.out.2.1 HH.out HLO.out _).mono ?_; rintro e w' ⟨rfl, rfl⟩)
                go_meet
                exact ⟨D', rfl, HD', HBX⟩
              · have e1 : ¬ (H : Int) = (l : Int) := by omega
                clear hB hll hLol
                go_wp2_with (go_at_call 84; refine (mul64_v D v2 H Lo HT.out.2.2.1 HL.out.2.1 HH.out HLO.out _).mono ?_; rintro e w' ⟨rfl, rfl⟩)
                go_meet
                exact ⟨D', rfl, HD', HBX⟩
    · have hlt2 : ¬ u0 < v1 := hlt
      go_wp2_with fail
      go_meet
      exact ⟨18446744073709551615, rfl, ⟨by have := HALL.out.2.2.2.2.2.2.2.1; omega, by omega⟩, HBQ⟩
  case rest =>
    obtain ⟨D, rfl, HD, HBC⟩ := hcut
    have HBU0 : Hid (Blk wc bu (rowW 17 U) 155) := HBU.out.keep HBC.out
    have HBV0 : Hid (Blk wc bv (rowW 16 V) 66) := HBV.out.keep HBC.out
    have HB0 : Hid (Below bu w wc) := HBC.out.mono (Nat.le_of_lt HBU.out.lt)
    clear HBC HC
    go_wp2_with fail
    go_loopw [11, 12, 91] (fun s11 s12 s91 wx => ∃ i A c bo : Nat, i ≤ n ∧ s91 = .int .i64 (i : Int) ∧ s11 = .int .u64 (c : Int) ∧ s12 = .int .u64 (bo : Int) ∧ Hid (c < 18446744073709551616 ∧ bo ≤ 1 ∧ A + D * (V % 2 ^ (64 * i)) * 2 ^ (64 * j) = U + (bo + c) * 2 ^ (64 * (i + j)) ∧ A < 2 ^ (64 * (j + n + 1))) ∧ Hid (Below bu w wx) ∧ Hid (Blk wx bu (rowW 17 A) 155) ∧ Hid (Blk wx bv (rowW 16 V) 66)) (fun _ _ s91 _ => n - (intOf s91).toNat)
    case atStart =>
      exact ⟨0, U, 0, 0, by omega, rfl, rfl, rfl, ⟨by omega, by omega, by simp [Nat.mod_one], HALL.out.2.2.2.2.2.2.1⟩, HB0, HBU0, HBV0⟩
    case round =>
      obtain ⟨i, A, c, bo, hi, rfl, rfl, rfl, HI, HBX, HUX, HVX⟩ := hrel
      by_cases hlt : i < n
      · have hj16 := HALL.out.2.2.1
        obtain ⟨a, ha⟩ : ∃ a, a = wdn A (i + j) := ⟨_, rfl⟩
        obtain ⟨vi, hvi⟩ : ∃ vi, vi = wdn V i := ⟨_, rfl⟩
        have la : a < 18446744073709551616 := by rw [ha]; exact wdn_lt _ _
        have lvi : vi < 18446744073709551616 := by rw [hvi]; exact wdn_lt _ _
        have e0 : wr.cell? ⟨bu, j + i, none⟩ = some (.int .u64 (a : Int)) := by rw [ha, Nat.add_comm i j]; exact HUX.out.cell (rowW_get' 17 A _ (by omega))
        have e1 : wr.cell? ⟨bv, i, none⟩ = some (.int .u64 (vi : Int)) := by rw [hvi]; exact HVX.out.cell (rowW_get' 16 V _ (by omega))
        have e2 : wr.frozen? ⟨bu, j + i, none⟩ = false := HUX.out.frozen _
        obtain ⟨H, Lo, lo, k1, c', hH, hLo, hLol, hlo, hk1, hc', hcl, hlol, hdig⟩ := ms_digit D vi c HD.out.2 lvi HI.out.1
        obtain ⟨t, bo', hbo', hbo1, htl, hsub⟩ := sub_step a lo bo la hlol HI.out.2.1
        have b1 := fun w => add64_v Lo c lo k1 hLol HI.out.1 hlo hk1 w
        have b2 := fun w => sub64_v a lo bo t bo' la hlol HI.out.2.1 hbo' hsub w
        have b3 := wrap_u64_v H k1 c' hc' hcl
        have HM := fun w => Lib.hid (mul64_v D vi H Lo HD.out.2 lvi hH hLo w)
        have hinv := ms_step A D V U c bo i j t lo c' bo' HI.out.2.2.1 (by rw [← hvi]; exact hdig) (by rw [← ha]; exact hsub)
        have HN : Hid (c' < 18446744073709551616 ∧ bo' ≤ 1 ∧ setw A (i + j) t + D * (V % 2 ^ (64 * (i + 1))) * 2 ^ (64 * j) = U + (bo' + c') * 2 ^ (64 * (i + 1 + j)) ∧ setw A (i + j) t < 2 ^ (64 * (j + n + 1))) := ⟨hcl, hbo1, hinv, setw_lt A (i + j) t (j + n + 1) htl (by omega) HI.out.2.2.2⟩
        have HSET := Lib.hid (rowW_set 17 A (i + j) t htl)
        have i1 : (i : Int) < (n : Int) := by omega
        have i2 : (i : Int) < (L : Int) := by omega
        have i3 : i ≤ capu := by omega
        have i4 : i ≤ capv := by omega
        have i5 : (0 : Int) ≤ (i : Int) := by omega
        have q1 : i < L := by omega
        clear ha hvi la lvi hH hLo hLol hlo hk1 hc' hcl hlol hdig hbo' hbo1 htl hsub hinv hj16
        go_wp2_with (go_at_call 84; refine (HM _).out.mono ?_; rintro e w' ⟨rfl, rfl⟩)
        refine ⟨⟨i + 1, setw A (i + j) t, c', bo', by omega, by go_num, rfl, rfl, HN, ?_, ?_, ?_⟩, by simp [intOf]; omega⟩
        · exact HBX.out.setCell (by simp) _
        · have h := HUX.out.setCell_same (j + i) (.int .u64 (t : Int))
          rw [Nat.add_comm j i, HSET.out] at h
          rw [Nat.add_comm j i]; exact h
        · exact HVX.out.setCell_other (by have := HNE.out; simp; omega) _
      · have hin : n = i := by omega
        subst hin
        have hj16 := HALL.out.2.2.1
        obtain ⟨a, ha⟩ : ∃ a, a = wdn A (n + j) := ⟨_, rfl⟩
        have la : a < 18446744073709551616 := by rw [ha]; exact wdn_lt _ _
        have e0 : wr.cell? ⟨bu, j + n, none⟩ = some (.int .u64 (a : Int)) := by rw [ha, Nat.add_comm n j]; exact HUX.out.cell (rowW_get' 17 A _ (by omega))
        have e2 : wr.frozen? ⟨bu, j + n, none⟩ = false := HUX.out.frozen _
        obtain ⟨t, bo', hbo', hbo1, htl, hsub⟩ := sub_step a c bo la HI.out.1 HI.out.2.1
        have b2 := fun w => sub64_v a c bo t bo' la HI.out.1 HI.out.2.1 hbo' hsub w
        have hVm : V % 2 ^ (64 * n) = V := Nat.mod_eq_of_lt HALL.out.2.2.2.2.2.1
        have hinv := ms_last A (D * (V % 2 ^ (64 * n)) * 2 ^ (64 * j)) U c bo (n + j) t bo' HI.out.2.2.1 (by rw [← ha]; exact hsub)
        rw [hVm, Nat.mul_assoc, ← HALL.out.2.2.2.1] at hinv
        have HN : Hid (bo' ≤ 1 ∧ setw A (n + j) t + D * W = U + bo' * 2 ^ (64 * (n + j + 1)) ∧ setw A (n + j) t < 2 ^ (64 * (n + j + 1))) := ⟨hbo1, hinv, setw_lt A (n + j) t (n + j + 1) htl (by omega) (by rw [show n + j + 1 = j + n + 1 by omega]; exact HI.out.2.2.2)⟩
        have HSET := Lib.hid (rowW_set 17 A (n + j) t htl)
        have i1 : ¬ (n : Int) < (n : Int) := by omega
        clear ha la hbo' hbo1 htl hsub hinv hj16 hVm
        go_wp2_with fail
        go_loopw [6, 12, 17, 18] (fun s6 s12 _ _ wx => ∃ D bo A : Nat, s6 = .int .u64 (D : Int) ∧ s12 = .int .u64 (bo : Int) ∧ Hid (bo ≤ 1 ∧ A + D * W = U + bo * 2 ^ (64 * (n + j + 1)) ∧ A < 2 ^ (64 * (n + j + 1)) ∧ U / W ≤ D ∧ D < 18446744073709551616) ∧ Hid (Below bu w wx) ∧ Hid (Blk wx bu (rowW 17 A) 155) ∧ Hid (Blk wx bv (rowW 16 V) 66)) (fun s6 _ _ _ _ => (intOf s6).toNat)
        case atStart =>
          refine ⟨D, bo', setw A (n + j) t, rfl, rfl, ⟨HN.out.1, HN.out.2.1, HN.out.2.2, HD.out.1, HD.out.2⟩, ?_, ?_, ?_⟩
          · exact HBX.out.setCell (by simp) _
          · have h := HUX.out.setCell_same (j + n) (.int .u64 (t : Int))
            rw [Nat.add_comm j n, HSET.out] at h
            rw [Nat.add_comm j n]; exact h
          · exact HVX.out.setCell_other (by have := HNE.out; simp; omega) _
        case round =>
          clear HI HBX HUX HVX HD e0 e2 b2 HN HSET
          obtain ⟨D, bo, A, rfl, rfl, HI, HBX, HUX, HVX⟩ := hrel
          by_cases hb0 : bo = 0
          · subst hb0
            have HE := Lib.hid (digit_done A D W U HALL.out.2.2.2.2.1 HI.out.2.2.2.1 (by have := HI.out.2.1; rw [Nat.zero_mul, Nat.add_zero] at this; exact this))
            go_wp2_with fail
            go_ret
            exact ⟨by rw [← HE.out.1]; rfl, HBX.out, by rw [← HE.out.2]; exact HUX.out⟩
          · have hb1 : bo = 1 := by have := HI.out.1; omega
            subst hb1
            rw [show ((1 : Nat) : Int) = 1 from rfl]
            have hlt := too_great A D W U _ HI.out.2.2.1 HALL.out.2.2.2.2.1 HI.out.2.1
            have hpos := Nat.lt_of_le_of_lt (Nat.zero_le _) hlt
            obtain ⟨D', hD'⟩ : ∃ D', D = D' + 1 := ⟨D - 1, by omega⟩
            have HDP : Hid (U / W ≤ D' ∧ D' < 18446744073709551616 ∧ D = D' + 1) := ⟨by rw [hD'] at hlt; exact Nat.le_of_lt_succ hlt, by have := HI.out.2.2.2.2; omega, hD'⟩
            have b1 : IntKind.u64.wrap ((D : Int) - 1) = (D' : Int) := by have := HI.out.2.2.2.2; rw [IntKind.wrap_u64]; omega
            clear hlt hpos hD' hb0
            go_wp2_with fail
            go_loopw [17, 18, 144] (fun s17 _ s144 wx => ∃ i A1 c : Nat, i ≤ n ∧ s144 = .int .i64 (i : Int) ∧ s17 = .int .u64 (c : Int) ∧ Hid (c ≤ 1 ∧ A1 + c * 2 ^ (64 * (i + j)) = A + V % 2 ^ (64 * i) * 2 ^ (64 * j) ∧ A1 < 2 ^ (64 * (n + j + 1))) ∧ Hid (Below bu w wx) ∧ Hid (Blk wx bu (rowW 17 A1) 155) ∧ Hid (Blk wx bv (rowW 16 V) 66)) (fun _ _ s144 _ => n - (intOf s144).toNat)
            case atStart => exact ⟨0, A, 0, by omega, rfl, rfl, ⟨by omega, by simp [Nat.mod_one], HI.out.2.2.1⟩, HBX, HUX, HVX⟩
            case round =>
              clear HBX HUX HVX
              obtain ⟨i, A1, c, hi, rfl, rfl, HJ, HBX, HUX, HVX⟩ := hrel
              have hj16 := HALL.out.2.2.1
              by_cases hlt : i < n
              · obtain ⟨a, ha⟩ : ∃ a, a = wdn A1 (i + j) := ⟨_, rfl⟩
                obtain ⟨vi, hvi⟩ : ∃ vi, vi = wdn V i := ⟨_, rfl⟩
                have la : a < 18446744073709551616 := by rw [ha]; exact wdn_lt _ _
                have lvi : vi < 18446744073709551616 := by rw [hvi]; exact wdn_lt _ _
                have e0 : wr.cell? ⟨bu, j + i, none⟩ = some (.int .u64 (a : Int)) := by rw [ha, Nat.add_comm i j]; exact HUX.out.cell (rowW_get' 17 A1 _ (by omega))
                have e1 : wr.cell? ⟨bv, i, none⟩ = some (.int .u64 (vi : Int)) := by rw [hvi]; exact HVX.out.cell (rowW_get' 16 V _ (by omega))
                have e2 : wr.frozen? ⟨bu, j + i, none⟩ = false := HUX.out.frozen _
                obtain ⟨t, ht⟩ : ∃ t, t = (a + vi + c) % 18446744073709551616 := ⟨_, rfl⟩
                obtain ⟨c', hc'⟩ : ∃ c', c' = (a + vi + c) / 18446744073709551616 := ⟨_, rfl⟩
                have hc1 := HJ.out.1
                have b2 := fun w => add64_w a vi c t c' la lvi hc1 ht hc' w
                have htl : t < 18446744073709551616 := by rw [ht]; exact mod64_lt _
                have hsum : t + c' * 18446744073709551616 = a + vi + c := by rw [ht, hc', Nat.add_comm]; exact split_word _
                have hinv := ab_step A1 A V c i j t c' HJ.out.2.1 (by rw [← ha, ← hvi]; exact hsum)
                have HN : Hid (c' ≤ 1 ∧ setw A1 (i + j) t + c' * 2 ^ (64 * (i + 1 + j)) = A + V % 2 ^ (64 * (i + 1)) * 2 ^ (64 * j) ∧ setw A1 (i + j) t < 2 ^ (64 * (n + j + 1))) := ⟨by omega, hinv, setw_lt A1 (i + j) t (n + j + 1) htl (by omega) HJ.out.2.2⟩
                have HSET := Lib.hid (rowW_set 17 A1 (i + j) t htl)
                have i1 : (i : Int) < (n : Int) := by omega
                have i2 : (i : Int) < (L : Int) := by omega
                have i3 : i ≤ capu := by omega
                have i4 : i ≤ capv := by omega
                have i5 : (0 : Int) ≤ (i : Int) := by omega
                clear ha hvi la lvi ht hc' hc1 htl hsum hinv hj16
                go_wp2_with fail
                go_region
                go_wp2_with fail
                refine ⟨⟨i + 1, setw A1 (i + j) t, c', by omega, by go_num, rfl, HN, ?_, ?_, ?_⟩, by simp [intOf]; omega⟩
                · exact (HBX.out.drew).setCell (by simp) _
                · have h := (HUX.out.drew).setCell_same (j + i) (.int .u64 (t : Int))
                  rw [Nat.add_comm j i, HSET.out] at h
                  rw [Nat.add_comm j i]; exact h
                · exact (HVX.out.drew).setCell_other (by have := HNE.out; simp; omega) _
              · have hin : n = i := by omega
                subst hin
                obtain ⟨a, ha⟩ : ∃ a, a = wdn A1 (n + j) := ⟨_, rfl⟩
                have la : a < 18446744073709551616 := by rw [ha]; exact wdn_lt _ _
                have e0 : wr.cell? ⟨bu, j + n, none⟩ = some (.int .u64 (a : Int)) := by rw [ha, Nat.add_comm n j]; exact HUX.out.cell (rowW_get' 17 A1 _ (by omega))
                have e2 : wr.frozen? ⟨bu, j + n, none⟩ = false := HUX.out.frozen _
                obtain ⟨t, ht⟩ : ∃ t, t = (a + 0 + c) % 18446744073709551616 := ⟨_, rfl⟩
                obtain ⟨c', hc'⟩ : ∃ c', c' = (a + 0 + c) / 18446744073709551616 := ⟨_, rfl⟩
                have hc1 := HJ.out.1
                have b2 : ∀ w, (callFunc 85 #[.int .u64 (a : Int), .int .u64 0, .int .u64 (c : Int)]).run Try.prog w = .ok (.value (.tuple #[.int .u64 (t : Int), .int .u64 (c' : Int)])) w := fun w => add64_w a 0 c t c' la (by omega) hc1 ht hc' w
                have htl : t < 18446744073709551616 := by rw [ht]; exact mod64_lt _
                have hsum : t + c' * 18446744073709551616 = a + 0 + c := by rw [ht, hc', Nat.add_comm]; exact split_word _
                have hVm : V % 2 ^ (64 * n) = V := Nat.mod_eq_of_lt HALL.out.2.2.2.2.2.1
                have h2 := HJ.out.2.1
                rw [hVm, ← HALL.out.2.2.2.1] at h2
                have hinv := ab_last A1 (A + W) c (n + j) t c' h2 (by rw [← ha]; exact hsum)
                have hcl : c' ≤ 1 := by omega
                have hturn := ab_turn A (setw A1 (n + j) t) D W U 1 c' (2 ^ (64 * (n + j + 1))) (by have := HDP.out.2.2; omega) HI.out.2.1 hinv hcl
                rw [show D - 1 = D' by have := HDP.out.2.2; omega] at hturn
                obtain ⟨bo2, hbo2⟩ : ∃ bo2, bo2 = 1 - c' := ⟨_, rfl⟩
                rw [← hbo2] at hturn
                have b3 : IntKind.u64.wrap (1 - (c' : Int)) = (bo2 : Int) := by rw [IntKind.wrap_u64]; omega
                have HN : Hid (bo2 ≤ 1 ∧ setw A1 (n + j) t + D' * W = U + bo2 * 2 ^ (64 * (n + j + 1)) ∧ setw A1 (n + j) t < 2 ^ (64 * (n + j + 1)) ∧ U / W ≤ D' ∧ D' < 18446744073709551616) := ⟨by omega, hturn, setw_lt A1 (n + j) t (n + j + 1) htl (by omega) HJ.out.2.2, HDP.out.1, HDP.out.2.1⟩
                have HSET := Lib.hid (rowW_set 17 A1 (n + j) t htl)
                have i1 : ¬ (n : Int) < (n : Int) := by omega
                clear ha la ht hc' hc1 htl hsum hinv hj16 hVm h2 hcl hturn hbo2
                go_wp2_with fail
                refine ⟨⟨D', bo2, setw A1 (n + j) t, rfl, rfl, HN, ?_, ?_, ?_⟩, by have := HDP.out.2.2; simp [intOf]; omega⟩
                · exact HBX.out.setCell (by simp) _
                · have h := HUX.out.setCell_same (j + n) (.int .u64 (t : Int))
                  rw [Nat.add_comm j n, HSET.out] at h
                  rw [Nat.add_comm j n]; exact h
                · exact HVX.out.setCell_other (by have := HNE.out; simp; omega) _
end Go.Proofs.Ytfohihjeemmedaa
