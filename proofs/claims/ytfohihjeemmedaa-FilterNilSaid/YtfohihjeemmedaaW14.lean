/- The walk of package wide's divide: the general case. -/
import Derived.Test.YtfohihjeemmedaaW13
namespace Go.Proofs.Ytfohihjeemmedaa
open Go.RowKit

set_option maxRecDepth 100000 in
set_option maxHeartbeats 4000000 in
theorem divide_gen (N M n m : Nat) (w : World) (hN : N < W16) (hM : M < W16) (hge : M ≤ N) (hn : n = np M) (hm : m = np N) (hn2 : 2 ≤ n) :
    Calls Try.prog 94 #[.agg (rowW 16 N), .agg (rowW 16 M)] w fun e w' => e = .returned (.tuple #[.agg (rowW 16 (N / M)), .agg (rowW 16 (N % M))]) ∧ Below w.heap.size w w' := by
  have HN := Lib.hid hN
  have HM := Lib.hid hM
  have hc := cmpN_ge hge
  have hcd : decide (cmpN N M < 0) = false := decide_eq_false (by omega)
  have hm16 : m ≤ 16 := by rw [hm]; exact (np_le_iff _ _).2 (LtW.of16 hN)
  have hnm : n ≤ m := by rw [hn, hm]; exact (np_le_iff _ _).2 (Nat.lt_of_le_of_lt hge (np_lt N))
  have hM0 : M ≠ 0 := fun h => by rw [h] at hn; have : np 0 = 0 := rfl; omega
  obtain ⟨p, hp⟩ : ∃ p, n = p + 1 := ⟨n - 1, by omega⟩
  obtain ⟨y, hy⟩ : ∃ y, y = wdn M p := ⟨_, rfl⟩
  have hML : M < 2 ^ (64 * n) := by rw [hn]; exact np_lt M
  have hMG : 2 ^ (64 * (n - 1)) ≤ M := by rw [hn]; exact np_le_self M hM0
  have hy0 : y ≠ 0 := by
    rw [hy]; intro h
    have := lt_pow_of_wdn_zero M p (by rw [← hp]; exact hML) h
    rw [show n - 1 = p by omega] at hMG
    omega
  have hyl : y < 18446744073709551616 := by rw [hy]; exact wdn_lt _ _
  obtain ⟨s, hs⟩ : ∃ s, s = 64 - bl y := ⟨_, rfl⟩
  obtain ⟨nb, nl, ng⟩ := norm_word y hy0 hyl
  rw [← hs] at nl ng
  have hbp := bl_pos y hy0
  have hs64 : s < 64 := by omega
  obtain ⟨V, hV⟩ : ∃ V, V = M * 2 ^ s := ⟨_, rfl⟩
  obtain ⟨A, hA⟩ : ∃ A, A = N * 2 ^ s := ⟨_, rfl⟩
  -- the divisor shifted: as many words, the highest not 0
  have htop := wdn_top M p (by rw [← hp]; exact hML)
  have hVL : V < 2 ^ (64 * n) := by
    rw [hV, hp, pow_succ64]
    have h1 : M < 2 ^ (64 * p) * (y + 1) := by
      rw [hy, htop, Nat.mul_comm, ← Nat.div_lt_iff_lt_mul (Nat.two_pow_pos _)]; omega
    have h2 : (y + 1) * 2 ^ s ≤ 18446744073709551616 := by
      have hp2 : (18446744073709551616 : Nat) = 2 ^ (64 - s) * 2 ^ s := by rw [← Nat.pow_add, show (64 - s) + s = 64 by omega]
      rw [hp2]
      refine Nat.mul_le_mul_right _ ?_
      have := bl_lt y
      rw [show 64 - s = bl y by omega]; omega
    calc M * 2 ^ s < 2 ^ (64 * p) * (y + 1) * 2 ^ s := Nat.mul_lt_mul_of_pos_right h1 (Nat.two_pow_pos _)
      _ = 2 ^ (64 * p) * ((y + 1) * 2 ^ s) := Nat.mul_assoc _ _ _
      _ ≤ 2 ^ (64 * p) * 18446744073709551616 := Nat.mul_le_mul_left _ h2
  have hV1 : wdn V (n - 1) ≠ 0 := by
    intro h
    have h1 := lt_pow_of_wdn_zero V (n - 1) (by rw [show n - 1 + 1 = n by omega]; exact hVL) h
    have h2 : 2 ^ (64 * (n - 1)) * 1 ≤ M * 2 ^ s := Nat.mul_le_mul hMG (Nat.two_pow_pos s)
    rw [← hV] at h2; omega
  have hV0 : 0 < V := by rw [hV]; exact Nat.mul_pos (Nat.pos_of_ne_zero hM0) (Nat.two_pow_pos _)
  have hNL : N < 2 ^ (64 * m) := by rw [hm]; exact np_lt N
  have hAV : A < V * 2 ^ (64 * (m - n + 1)) := by rw [hA, hV]; exact norm_lt N M m n s hNL hMG (by omega) hnm
  have hdiv : A / V = N / M := by rw [hA, hV]; exact div_scale N M s
  have hmod : A % V / 2 ^ s = N % M := by rw [hA, hV]; exact mod_scale N M s
  have hVW : V < W16 := by
    have : ∀ k, k = 16 → V < 2 ^ (64 * k) := fun k hk => Nat.lt_of_lt_of_le hVL (pow2_le _ _ (by omega))
    have h := this 16 rfl
    rwa [← W16_eq 16 rfl] at h
  have HALL : Hid (n = p + 1 ∧ y = wdn M p ∧ y < 18446744073709551616 ∧ s = 64 - bl y ∧ s < 64 ∧ V = M * 2 ^ s ∧ A = N * 2 ^ s ∧ V < 2 ^ (64 * n) ∧ wdn V (n - 1) ≠ 0 ∧ 0 < V ∧ A < V * 2 ^ (64 * (m - n + 1)) ∧ A / V = N / M ∧ A % V / 2 ^ s = N % M ∧ V < W16 ∧ n ≤ m ∧ m ≤ 16 ∧ 2 ≤ n) :=
    ⟨hp, hy, hyl, hs, hs64, hV, hA, hVL, hV1, hV0, hAV, hdiv, hmod, hVW, hnm, hm16, hn2⟩
  have HNE := Lib.hid hn
  have HME := Lib.hid hm
  have z1 : (n : Int) ≤ 16 := by omega
  have z2 : (m : Int) ≤ 16 := by omega
  have z3 : (n : Int) ≤ (m : Int) := by omega
  have z4 : (p : Int) < 16 := by omega
  have z5 : (0 : Int) ≤ (p : Int) := by omega
  have z6 : ¬ (n : Int) = 1 := by omega
  have z7 : (n : Int) - 1 = (p : Int) := by omega
  have z8 : ((n : Int) == 1) = false := by simp; omega
  have z9 : (s : Int) < 64 := by omega
  clear hN hM hge hn hm hp hy hyl hs hs64 nb nl ng hbp hV hA htop hVL hV1 hV0 hAV hdiv hmod hVW hnm hm16 hn2 hM0 hML hMG hy0 hNL
  go_enter Try.func94, Try.ntmps94
  go_wp2_with fail
  refine (cmp_c _ _ _ _ N M _ HN.out HM.out (.of_blk ((((((Blk.new _ _ _).alloc _).alloc _).alloc _).alloc _).alloc _)) (.of_blk (((((Blk.new' _ _ _ (by simp)).alloc _).alloc _).alloc _).alloc _))).mono ?_; rintro e w1 ⟨rfl, hb1⟩
  have Q0 : Hid (Blk w1 w.heap.size (rowW 16 N) 66) := Blk.keep ((((((Blk.new _ _ _).alloc _).alloc _).alloc _).alloc _).alloc _) hb1
  have Q1 : Hid (Blk w1 (w.heap.size + 1) (rowW 16 M) 66) := Blk.keep (((((Blk.new' _ _ _ (by simp)).alloc _).alloc _).alloc _).alloc _) hb1
  have Q2 : Hid (Blk w1 (w.heap.size + 1 + 1) (rowW 16 0) 66) := Blk.keep ((((Blk.new' _ _ _ (by simp)).alloc _).alloc _).alloc _) hb1
  have Q3 : Hid (Blk w1 (w.heap.size + 1 + 1 + 1) (rowW 16 0) 66) := Blk.keep (((Blk.new' _ _ _ (by simp)).alloc _).alloc _) hb1
  have Q4 : Hid (Blk w1 (w.heap.size + 1 + 1 + 1 + 1) (rowW 16 0) 66) := Blk.keep ((Blk.new' _ _ _ (by simp)).alloc _) hb1
  have Q5 : Hid (Blk w1 (w.heap.size + 1 + 1 + 1 + 1 + 1) (rowW 16 0) 66) := Blk.keep (Blk.new' _ _ _ (by simp)) hb1
  have HB1 : Hid (Below w.heap.size w w1) := (by repeat (first | exact Below.refl _ _ | exact Below_of_hid (by assumption) | refine Below.drew ?_ | refine below_drewN ?_ _ | refine Below_putRow ?_ (by first | omega | (simp; done) | (simp; omega) | fail) _ _ | refine Below.alloc ?_ (by first | omega | (simp; done) | (simp; omega) | fail) _ | refine Below.setCell ?_ (by first | omega | (simp; done) | (simp; omega) | fail) _ | refine Below.trans ?_ (Below.mono (by assumption) (by first | omega | (simp; done) | (simp; omega) | fail))))
  clear hb1
  have e0 : w1.cell? ⟨w.heap.size + 1, p, none⟩ = some (.int .u64 (y : Int)) := by rw [HALL.out.2.1]; exact Q1.out.cell (rowW_get' 16 M _ (by omega))
  go_wp2_with fail
  refine (parts_c _ _ N _ HN.out (.of_blk Q0.out)).mono ?_; rintro e w' ⟨rfl, rfl⟩; rw [← HME.out]
  go_wp2_with fail
  refine (parts_c _ _ M _ HM.out (.of_blk Q1.out)).mono ?_; rintro e w' ⟨rfl, rfl⟩; rw [← HNE.out]
  go_wp2_with fail
  refine (lz64_s y s _ HALL.out.2.2.1 HALL.out.2.2.2.1).mono ?_; rintro e w' ⟨rfl, rfl⟩
  go_wp2_with fail
  refine (up_c _ _ M s _ (by have := HALL.out.2.2.2.2.1; omega) (.of_blk Q1.out)).mono ?_; rintro e w2 ⟨rfl, hb2⟩; rw [← HALL.out.2.2.2.2.2.1]
  replace Q0 := Lib.hid (Q0.out.keep hb2)
  replace Q2 := Lib.hid (Q2.out.keep hb2)
  replace Q3 := Lib.hid (Q3.out.keep hb2)
  replace Q4 := Lib.hid (Q4.out.keep hb2)
  replace Q5 := Lib.hid (Q5.out.keep hb2)
  replace HB1 := Lib.hid (HB1.out.trans (hb2.mono HB1.out.size))
  have hg5 := Q5.out.lt
  clear hb2 e0 Q1
  go_upto_region 15 with fail
  obtain ⟨g, hg⟩ : ∃ g, g = w2.heap.size := ⟨_, rfl⟩
  have QV : Hid (Blk ((w2.alloc (.cells (rowW 16 V) 66)).alloc (.cells (rowW 17 0) 155)) g (rowW 16 V) 66) := by rw [hg]; exact (Blk.new _ _ _).alloc _
  have QU : Hid (Blk ((w2.alloc (.cells (rowW 16 V) 66)).alloc (.cells (rowW 17 0) 155)) (g + 1) (rowW 17 0) 155) := by rw [hg]; exact Blk.new' _ _ _ (by simp)
  replace Q0 := Lib.hid ((Q0.out.alloc (.cells (rowW 16 V) 66)).alloc (.cells (rowW 17 0) 155))
  replace Q2 := Lib.hid ((Q2.out.alloc (.cells (rowW 16 V) 66)).alloc (.cells (rowW 17 0) 155))
  replace Q3 := Lib.hid ((Q3.out.alloc (.cells (rowW 16 V) 66)).alloc (.cells (rowW 17 0) 155))
  replace Q4 := Lib.hid ((Q4.out.alloc (.cells (rowW 16 V) 66)).alloc (.cells (rowW 17 0) 155))
  replace Q5 := Lib.hid ((Q5.out.alloc (.cells (rowW 16 V) 66)).alloc (.cells (rowW 17 0) 155))
  replace HB1 := Lib.hid ((HB1.out.alloc HB1.out.size (.cells (rowW 16 V) 66)).alloc (by have := HB1.out.size; simp; omega) (.cells (rowW 17 0) 155))
  rw [← hg] at hg5
  have hws : w.heap.size ≤ g := by omega
  simp only [← hg]
  generalize (w2.alloc (.cells (rowW 16 V) 66)).alloc (.cells (rowW 17 0) 155) = w3 at *
  clear hg
  have hs : s < 64 := HALL.out.2.2.2.2.1
  go_wp2_with fail
  go_loopw [15, 53] (fun _ s53 wx => ∃ i : Nat, i ≤ 16 ∧ s53 = .int .i64 (i : Int) ∧ Hid (Below (g + 1) w3 wx) ∧ Hid (Blk wx (g + 1) (rowW 17 (N % 2 ^ (64 * i) * 2 ^ s)) 155)) (fun _ s53 _ => 16 - (intOf s53).toNat)
  case atStart =>
    refine ⟨0, by omega, rfl, Below.refl _ _, ?_⟩
    have : N % 2 ^ (64 * 0) * 2 ^ s = 0 := by simp [Nat.mod_one]
    rw [this]; exact QU
  case round =>
    obtain ⟨i, hi, rfl, HBX, HUX⟩ := hrel
    by_cases hlt : i < 16
    · obtain ⟨x, hx⟩ : ∃ x, x = N % 2 ^ (64 * i) * 2 ^ s := ⟨_, rfl⟩
      obtain ⟨t, ht⟩ : ∃ t, t = wdn x i := ⟨_, rfl⟩
      obtain ⟨a, ha⟩ : ∃ a, a = wdn N i := ⟨_, rfl⟩
      obtain ⟨v1, hv1⟩ : ∃ v1, v1 = a * 2 ^ s % 18446744073709551616 := ⟨_, rfl⟩
      obtain ⟨v, hv⟩ : ∃ v, v = t ||| v1 := ⟨_, rfl⟩
      obtain ⟨v2, hv2⟩ : ∃ v2, v2 = a / 2 ^ (64 - s) := ⟨_, rfl⟩
      have al : a < 18446744073709551616 := by rw [ha]; exact wdn_lt _ _
      have tl : t < 18446744073709551616 := by rw [ht]; exact wdn_lt _ _
      have v1l : v1 < 18446744073709551616 := by rw [hv1]; exact mod64_lt _
      have v2l : v2 < 18446744073709551616 := by rw [hv2]; exact Nat.lt_of_le_of_lt (Nat.div_le_self _ _) al
      have fo := fill_or N i s (by omega)
      rw [← hx, ← ha, ← ht, ← hv1, ← hv] at fo
      rw [← hx] at HUX
      have f1 := fill_1 N i s v (by rw [← hx, ← ha, ← ht, ← hv1]; exact fo.1)
      have f2 := fill_2 N i s (by omega)
      have f0 := fun h => fill_s0 N i s h
      rw [← hx, ← ha, ← hv1] at f1 f2
      rw [← hv2] at f2
      simp only [← hx, ← ha, ← hv1] at f0
      have vl : v < 18446744073709551616 := by rw [fo.1]; exact fo.2.1
      have s1 : IntKind.u64.wrap ((a : Int) * 2 ^ s) = (v1 : Int) := by rw [hv1]; exact shl_u64 _ _
      have s2 : bits .or .u64 (t : Int) (v1 : Int) = (v : Int) := by rw [hv]; exact bits_or_u64_nat _ _ tl v1l
      have s3 : (a : Int) / 2 ^ (64 - s) = (v2 : Int) := by rw [hv2]; exact shr_u64 _ _ _ rfl
      have S1 := Lib.hid (rowW_set 17 x i v vl)
      have S2 := Lib.hid (rowW_set 17 (x + v1 * 2 ^ (64 * i)) (i + 1) v2 v2l)
      rw [f1] at S1
      have F2 := Lib.hid f2
      have F0 := Lib.hid f0
      have c0 : wr.cell? ⟨w.heap.size, i, none⟩ = some (.int .u64 (a : Int)) := by rw [ha]; exact (Q0.out.below HBX.out (by omega)).cell (rowW_get' 16 N _ (by omega))
      have c1 : wr.cell? ⟨g + 1, i, none⟩ = some (.int .u64 (t : Int)) := by rw [ht]; exact HUX.out.cell (rowW_get' 17 x _ (by omega))
      have c2 : wr.frozen? ⟨g + 1, i, none⟩ = false := HUX.out.frozen _
      have c3 : wr.cell? ⟨g + 1, i + 1, none⟩ = some (.int .u64 ((wdn x (i + 1) : Nat) : Int)) := HUX.out.cell (rowW_get' 17 x _ (by omega))
      have c4 : wr.frozen? ⟨g + 1, i + 1, none⟩ = false := HUX.out.frozen _
      have i1 : (i : Int) < 16 := by omega
      have i2 : (i : Int) < 17 := by omega
      have i3 : (i : Int) + 1 < 17 := by omega
      have i4 : (0 : Int) ≤ (i : Int) := by omega
      have i5 : ¬ (w.heap.size = g + 1) := by omega
      have i6 : ¬ (g + 1 = w.heap.size) := by omega
      clear hx ht ha hv1 hv hv2 al tl v1l v2l fo f1 f2 f0 vl
      by_cases hs0 : s = 0
      · have j1 : ¬ 0 < s := by omega
        have F := Lib.hid (F0.out hs0)
        clear hs0 F0
        go_wp2_with fail
        go_region
        go_wp2_with fail
        refine ⟨⟨i + 1, by omega, by go_num, (HBX.out.setCell (by simp) _).drew, ?_⟩, (by first | (simp [intOf]; done) | (simp [intOf]; omega))⟩
        have h := HUX.out.setCell_same i (.int .u64 (v : Int))
        rw [S1.out, F.out] at h
        exact h.drew
      · have j1 : 0 < s := by omega
        clear hs0 F0
        go_wp2_with fail
        go_region
        go_wp2_with fail
        refine ⟨⟨i + 1, by omega, by go_num, ((HBX.out.setCell (by simp) _).drew).setCell (by simp) _, ?_⟩, (by first | (simp [intOf]; done) | (simp [intOf]; omega))⟩
        have h := HUX.out.setCell_same i (.int .u64 (v : Int))
        rw [S1.out] at h
        have h2 := (h.drew).setCell_same (i + 1) (.int .u64 (v2 : Int))
        rw [S2.out, F2.out] at h2
        exact h2
    · have hi16 : i = 16 := by omega
      have hNi : N % 2 ^ (64 * i) = N := Nat.mod_eq_of_lt (LtW.of_eq hi16 HN.out)
      rw [hNi, ← HALL.out.2.2.2.2.2.2.1] at HUX
      have i1 : ¬ (i : Int) < 16 := by omega
      replace Q2 := Lib.hid (Q2.out.below HBX.out (by omega))
      replace Q3 := Lib.hid (Q3.out.below HBX.out (by omega))
      replace Q4 := Lib.hid (Q4.out.below HBX.out (by omega))
      replace Q5 := Lib.hid (Q5.out.below HBX.out (by omega))
      replace QV := Lib.hid (QV.out.below HBX.out (by omega))
      replace HB1 := Lib.hid (HB1.out.trans (HBX.out.mono (by omega)))
      clear Q0 QU HBX hNi hi16 hlt
      have k0 : wrap64 ((m : Int) - (n : Int)) = ((m - n : Nat) : Int) := by unfold wrap64; omega
      have k0' : (m : Int) - (n : Int) = ((m - n : Nat) : Int) := by omega
      obtain ⟨K, hK⟩ : ∃ K, K = m - n := ⟨_, rfl⟩
      rw [← hK] at k0 k0'
      have HK := Lib.hid hK
      clear hK
      go_wp2_with fail
      go_loopw [16] (fun s16 wx => ∃ k : Nat, k ≤ K + 1 ∧ s16 = .int .i64 ((k : Int) - 1) ∧ Hid (Below w.heap.size w wx) ∧ Hid (Blk wx (w.heap.size + 1 + 1) (rowW 16 0) 66) ∧ Hid (Blk wx (w.heap.size + 1 + 1 + 1) (rowW 16 0) 66) ∧ Hid (Blk wx (w.heap.size + 1 + 1 + 1 + 1) (rowW 16 (A / (V * 2 ^ (64 * k)) * 2 ^ (64 * k))) 66) ∧ Hid (Blk wx (w.heap.size + 1 + 1 + 1 + 1 + 1) (rowW 16 0) 66) ∧ Hid (Blk wx g (rowW 16 V) 66) ∧ Hid (Blk wx (g + 1) (rowW 17 (A % (V * 2 ^ (64 * k)))) 155)) (fun s16 _ => (intOf s16 + 1).toNat)
      case atStart =>
        have hAV := HALL.out.2.2.2.2.2.2.2.2.2.2.1
        rw [← HK.out] at hAV
        refine ⟨K + 1, by omega, by rw [show ((K + 1 : Nat) : Int) - 1 = (K : Int) by omega], HB1, Q2, Q3, ?_, Q5, QV, ?_⟩
        · rw [Nat.div_eq_of_lt hAV, Nat.zero_mul]; exact Q4
        · rw [Nat.mod_eq_of_lt hAV]; exact HUX
      case round =>
        clear HB1 Q2 Q3 Q4 Q5 QV HUX i1 hi
        obtain ⟨k, hk, rfl, HB1, Q2, Q3, Q4, Q5, QV, QU⟩ := hrel
        rcases k with _ | j
        · have e1 : A / (V * 2 ^ (64 * 0)) * 2 ^ (64 * 0) = N / M := by rw [Nat.mul_zero, Nat.pow_zero, Nat.mul_one, Nat.mul_one]; exact HALL.out.2.2.2.2.2.2.2.2.2.2.2.1
          have e2 : A % (V * 2 ^ (64 * 0)) = A % V := by rw [Nat.mul_zero, Nat.pow_zero, Nat.mul_one]
          rw [e1] at Q4
          rw [e2] at QU
          obtain ⟨R, hR⟩ : ∃ R, R = A % V := ⟨_, rfl⟩
          rw [← hR] at QU
          have hRV : R < V := by rw [hR]; exact Nat.mod_lt _ HALL.out.2.2.2.2.2.2.2.2.2.1
          have hRW : Hid (R < W16) := by
            have := HALL.out.2.2.2.2.2.2.2.2.2.2.2.2.2.1
            show R < W16; omega
          have HRE : Hid (R / 2 ^ s = N % M) := by show _ = _; rw [hR]; exact HALL.out.2.2.2.2.2.2.2.2.2.2.2.2.1
          have k0 : ((0 : Nat) : Int) - 1 = -1 := rfl
          rw [k0]
          clear e1 e2 hR hRV k0
          go_wp2_with fail
          refine still_tail 2 (by kernel_rfl) (by kernel_rfl) ?_
          simp only [List.take_succ_cons, List.take_zero, List.drop_succ_cons, List.drop_zero]; (repeat still_step); (try refine wpStill_nil ?_)
          go_wp2_with (refine wpList_copy_splice rfl _ _ 134 134 rfl 36 Try.underlying134 info_word _ _ 16 16 16 17 rfl rfl (w.heap.size + 1 + 1 + 1 + 1 + 1) 0 (rowW 16 0).toList 66 (by rw [Array.toArray_toList]; exact Q5.out.drew) (rowW 16 R).toList (by simp) (fun _ => ⟨rfl, _, rfl, fun j v hv => ?_⟩) (by simp) ?_ (w.heap.size + 1 + 1 + 1 + 1 + 1) wr.drew (Below.refl _ _) (Nat.le_refl _) ?_)
          · have hj : j < 16 := by
              have := (List.getElem?_eq_some_iff.1 hv).1
              simpa using this
            rw [Array.getElem?_toList, rowW_get 16 R j hj] at hv
            rw [Addr.add_mid, ← hv, Nat.zero_add]
            exact (Blk.cell QU.out.drew (by rw [rowW_get 17 R j (by omega)]))
          · intro v hv
            exact (Array.all_eq_true_iff_forall_mem.1 (rowW_oneCell 16 R)) v (by simpa using hv)
          intro w5 hg5' hb5
          have q5 : Blk w5 (w.heap.size + 1 + 1 + 1 + 1 + 1) (rowW 16 R) 66 := by have := hg5'.out; rw [row_copy] at this; exact this
          have q2 : Blk w5 (w.heap.size + 1 + 1) (rowW 16 0) 66 := Q2.out.drew.below hb5 (by omega)
          have q3 : Blk w5 (w.heap.size + 1 + 1 + 1) (rowW 16 0) 66 := Q3.out.drew.below hb5 (by omega)
          have q4 : Blk w5 (w.heap.size + 1 + 1 + 1 + 1) (rowW 16 (N / M)) 66 := Q4.out.drew.below hb5 (by omega)
          have HB5 : Hid (Below w.heap.size w w5) := (HB1.out.drew).trans (hb5.mono (by omega))
          have R5 := Lib.hid q5
          have R2 := Lib.hid q2
          have R3 := Lib.hid q3
          have R4 := Lib.hid q4
          clear q5 q2 q3 q4 hb5 hg5' HB1
          go_wp2_with fail
          refine (down_c _ _ R s _ hRW.out (by have := HALL.out.2.2.2.2.1; omega) (.of_blk R5.out)).mono ?_; rintro e w6 ⟨rfl, hb6⟩; rw [HRE.out]
          have q5 := R5.out.keep hb6
          have q2 := R2.out.keep hb6
          have q3 := R3.out.keep hb6
          have q4 := R4.out.keep hb6
          have z6 := q5.lt
          have y2 : w.heap.size + 1 + 1 < w6.heap.size := by omega
          have y3 : w.heap.size + 1 + 1 + 1 < w6.heap.size := by omega
          have y4 : w.heap.size + 1 + 1 + 1 + 1 < w6.heap.size := by omega
          have y5 : w.heap.size + 1 + 1 + 1 + 1 + 1 < w6.heap.size := by omega
          have r4 := q4.row?_all 16 (by simp)
          have f2 := q2.fits 16 (by simp)
          have f3 := q3.fits 16 (by simp)
          have f5 := q5.fits 16 (by simp)
          have p5 := q5.put? 0 (rowW 16 (N % M)) (by simp) (by simp)
          have p2 := q2.put? 0 (rowW 16 (N / M)) (by simp) (by simp)
          have HB6 : Hid (Below w.heap.size w w6) := HB5.out.trans (hb6.mono HB5.out.size)
          clear q5 q2 q3 q4 hb6 HB5 z6
          go_wp2_with fail
          go_region
          all_goals go_wp2_with fail
          all_goals exact bodyPost_row2 16 16 (rowW 16 (N / M)) (rowW 16 (N % M)) rfl rfl rfl rfl Try.underlying66 rfl info_size Try.underlying66 rfl info_size (by go_simp) (by go_simp) ⟨rfl, (by repeat (first | exact Below.refl _ _ | exact Below_of_hid (by assumption) | refine Below.drew ?_ | refine below_drewN ?_ _ | refine Below_putRow ?_ (by first | omega | (simp; done) | (simp; omega) | fail) _ _ | refine Below.alloc ?_ (by first | omega | (simp; done) | (simp; omega) | fail) _ | refine Below.setCell ?_ (by first | omega | (simp; done) | (simp; omega) | fail) _ | refine Below.trans ?_ (Below.mono (by assumption) (by first | omega | (simp; done) | (simp; omega) | fail))))⟩
        · obtain ⟨U, hU⟩ : ∃ U, U = A % (V * 2 ^ (64 * (j + 1))) := ⟨_, rfl⟩
          obtain ⟨d, hd⟩ : ∃ d, d = U / (V * 2 ^ (64 * j)) := ⟨_, rfl⟩
          obtain ⟨L, hL⟩ : ∃ L, L = n + 1 := ⟨_, rfl⟩
          obtain ⟨cu, hcu⟩ : ∃ cu, cu = 17 - j := ⟨_, rfl⟩
          have hV0 := HALL.out.2.2.2.2.2.2.2.2.2.1
          have hUV : U < V * 2 ^ (64 * (j + 1)) := by rw [hU]; exact Nat.mod_lt _ (Nat.mul_pos hV0 (Nat.two_pow_pos _))
          have hKe := HK.out
          have hnm := HALL.out.2.2.2.2.2.2.2.2.2.2.2.2.2.2
          have hdl : d < 18446744073709551616 := by rw [hd]; exact digit_lt U V j hV0 hUV
          rw [← hU] at QU
          have hqw := quo_words A V j d (by rw [← hU]; exact hd)
          have hrw := rest_words A V j
          rw [← hU] at hrw
          have HS := Lib.hid (rowW_set 16 (A / (V * 2 ^ (64 * (j + 1))) * 2 ^ (64 * (j + 1))) j d hdl)
          rw [hqw] at HS
          have HRW := Lib.hid hrw
          have HST : Hid (2 ≤ n ∧ j + n ≤ 16 ∧ L = n + 1 ∧ L ≤ cu ∧ U < V * 2 ^ (64 * (j + 1)) ∧ d = U / (V * 2 ^ (64 * j))) := ⟨hnm.2.2, by omega, hL, by omega, hUV, hd⟩
          have k1 : ((j + 1 : Nat) : Int) - 1 = (j : Int) := by omega
          have k2 : (0 : Int) ≤ (j : Int) := by omega
          have k3 : (j : Int) < 16 := by omega
          obtain ⟨c, hc1⟩ : ∃ c, c = j + n := ⟨_, rfl⟩
          obtain ⟨e, he1⟩ : ∃ e, e = c + 1 := ⟨_, rfl⟩
          have k4 : IntKind.i64.wrap ((j : Int) + (n : Int)) = (c : Int) := by rw [IntKind.wrap_i64]; omega
          have k5 : IntKind.i64.wrap ((c : Int) + 1) = (e : Int) := by rw [IntKind.wrap_i64]; omega
          have k6 : (j : Int) ≤ (e : Int) := by omega
          have k7 : (e : Int) ≤ 17 := by omega
          have k8 : e - j = L := by omega
          have k9 : 17 - j = cu := by omega
          have k10 : (e : Int) - (j : Int) = (L : Int) := by omega
          have k11 : (17 : Int) - (j : Int) = (cu : Int) := by omega
          have k12 : (0 : Int) ≤ (e : Int) := by omega
          have k13 : (0 : Int) ≤ (n : Int) := by omega
          have k14 : j ≤ e := by omega
          have k15 : e ≤ 17 := by omega
          have k16 : n ≤ 16 := by omega
          have k17 : ¬ 17 = j := by omega
          have f4 : wr.frozen? ⟨w.heap.size + 1 + 1 + 1 + 1, j, none⟩ = false := Q4.out.frozen _
          have c4 : wr.cell? ⟨w.heap.size + 1 + 1 + 1 + 1, j, none⟩ = some (.int .u64 ((wdn (A / (V * 2 ^ (64 * (j + 1))) * 2 ^ (64 * (j + 1))) j : Nat) : Int)) := Q4.out.cell (rowW_get' 16 _ _ (by omega))
          clear hc1 he1
          rw [k1]
          clear hU hd hL hcu hV0 hUV hKe hnm hdl hqw hrw
          go_wp2_with fail
          go_region_held3 (fun w' => w'.frozen? ⟨w.heap.size + 1 + 1 + 1 + 1, j, none⟩ = false) (go_simp)
            (first
              | (go_at_call 110
                 refine (step_c (g + 1) g U V n j L cu 16 _ HST.out.1 HST.out.2.1 HST.out.2.2.1 HST.out.2.2.2.1 (by have := HST.out.2.1; omega) HALL.out.2.2.2.2.2.2.2.1 HALL.out.2.2.2.2.2.2.2.2.1 HST.out.2.2.2.2.1 QU.out.drew QV.out.drew (by omega)).mono ?_
                 rintro e w4 ⟨rfl, hb4, hu4⟩
                 rw [← HST.out.2.2.2.2.2]
                 have f4 : w4.frozen? ⟨w.heap.size + 1 + 1 + 1 + 1, j, none⟩ = false := (Q4.out.drew.below hb4 (by omega)).frozen _
                 have c4 : w4.cell? ⟨w.heap.size + 1 + 1 + 1 + 1, j, none⟩ = some (.int .u64 ((wdn (A / (V * 2 ^ (64 * (j + 1))) * 2 ^ (64 * (j + 1))) j : Nat) : Int)) := (Q4.out.drew.below hb4 (by omega)).cell (rowW_get' 16 _ _ (by omega))))
          go_wp2_with fail
          refine ⟨⟨j, by omega, rfl, ?_, ?_, ?_, ?_, ?_, ?_, ?_⟩, (by first | (simp [intOf]; done) | (simp [intOf]; omega))⟩
          · exact ((HB1.out.drew).trans (hb4.mono (by omega))).setCell (by simp; omega) _
          · exact (Q2.out.drew.below hb4 (by omega)).setCell_other (by first | omega | (simp; done) | (simp; omega) | fail) _
          · exact (Q3.out.drew.below hb4 (by omega)).setCell_other (by first | omega | (simp; done) | (simp; omega) | fail) _
          · have h := (Q4.out.drew.below hb4 (by omega)).setCell_same j (.int .u64 (d : Int))
            rw [HS.out] at h; exact h
          · exact (Q5.out.drew.below hb4 (by omega)).setCell_other (by first | omega | (simp; done) | (simp; omega) | fail) _
          · exact (QV.out.drew.below hb4 (by omega)).setCell_other (by first | omega | (simp; done) | (simp; omega) | fail) _
          · rw [← HRW.out]; exact hu4.setCell_other (by first | omega | (simp; done) | (simp; omega) | fail) _
end Go.Proofs.Ytfohihjeemmedaa
