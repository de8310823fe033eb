/- The walk of RootNear. -/
import Derived.Test.YtkfdfgecfedeiaaU2
namespace Go.Proofs.Ytkfdfgecfedeiaa
open Go.RowKit

@[go_sem] theorem fits_putRow_same {w : World} (g : Nat) (cs : Array Value) (n : Nat) (h : w.fits g n = true) (h2 : w.fits g cs.size = true) : (w.putRow g 0 cs).fits g n = true := by
  unfold World.fits at *
  simp only [World.putRow, Array.getElem?_modify, if_true]
  cases hb : w.heap[g]? with
  | none => rw [hb] at h; cases h
  | some o =>
    rw [hb] at h h2
    cases o with
    | cells c t fr =>
      obtain ⟨lo, hi⟩ := fr
      rcases lo with _ | lo <;> rcases hi with _ | hi <;> simp at h h2 ⊢
      rw [splice_size _ _ _ (by omega)]; exact h
    | _ => simp at h
/-- The nearest quotient: down or up, and not farther than a half. -/
theorem near_law (a b : Int) (hb : 0 < b) :
    ((2 * a + b).fdiv (2 * b) = a.fdiv b ∨ (2 * a + b).fdiv (2 * b) = -((-a).fdiv b)) ∧ 2 * ((2 * a + b).fdiv (2 * b) * b - a) ≤ b ∧ -b ≤ 2 * ((2 * a + b).fdiv (2 * b) * b - a) := by
  have hfc := floor_le_ceil a b (by omega)
  rw [Int.fdiv_eq_ediv_of_nonneg _ (by omega), Int.fdiv_eq_ediv_of_nonneg a (by omega)] at *
  rw [Int.fdiv_eq_ediv_of_nonneg _ (by omega)] at *
  have h1 := Int.mul_ediv_add_emod (2 * a + b) (2 * b)
  have h2 := Int.emod_nonneg (2 * a + b) (show 2 * b ≠ 0 by omega)
  have h3 := Int.emod_lt_of_pos (2 * a + b) (show 0 < 2 * b by omega)
  have h4 := Int.mul_ediv_add_emod a b
  have h5 := Int.emod_nonneg a (show b ≠ 0 by omega)
  have h6 := Int.emod_lt_of_pos a hb
  generalize (2 * a + b) / (2 * b) = n at *
  generalize (2 * a + b) % (2 * b) = r at *
  generalize a / b = p at *
  generalize a % b = s at *
  generalize -((-a) / b) = q at *
  -- 2 b n + r = 2 a + b; b p + s = a
  have e1 : 2 * (b * n) + r = 2 * a + b := by rw [← h1, Int.mul_assoc]
  have e2 : n * b = b * n := Int.mul_comm _ _
  have e3 : p * b = b * p := Int.mul_comm _ _
  have e4 : b * (n - p) = b * n - b * p := Int.mul_sub _ _ _
  rw [e2]
  refine ⟨?_, by omega, by omega⟩
  have hlo : 0 ≤ n - p := by
    rcases Int.lt_trichotomy (n - p) 0 with h | h | h
    · have : b * (n - p) ≤ b * (-1) := Int.mul_le_mul_of_nonneg_left (by omega) (by omega)
      omega
    · omega
    · omega
  have hhi : n - p ≤ 1 := by
    by_cases h : n - p ≤ 1
    · exact h
    · have : b * 2 ≤ b * (n - p) := Int.mul_le_mul_of_nonneg_left (by omega) (by omega)
      omega
  by_cases h0 : n = p
  · exact .inl h0
  · right
    have hn1 : n - p = 1 := by omega
    by_cases hq : p = q
    · have := hfc.2.2.1 hq
      rw [e3] at this
      rw [hn1] at e4
      omega
    · have := hfc.1
      have := hfc.2.1
      omega

set_option maxRecDepth 100000 in
set_option maxHeartbeats 4000000 in
theorem rootNear_c (a b : Int) (ha : -9223372036854775808 ≤ a ∧ a ≤ 9223372036854775807) (w : World) :
    Calls Try.prog 7 #[.int .i64 a, .int .i64 b] w fun e w' => e = .returned (.bool true) ∧ Below w.heap.size w w' := by
  obtain ⟨B0, hB0⟩ : ∃ B0 : Nat, (B0 : Int) = b % 2305843009213693952 := ⟨(b % 2305843009213693952).toNat, by omega⟩
  have a1 : bits .and .i64 b 2305843009213693951 = (B0 : Int) := by rw [hB0]; exact and_low b 61 2305843009213693951 (by decide) (by decide)
  obtain ⟨B, hB⟩ : ∃ B : Int, B = (B0 : Int) + 1 := ⟨_, rfl⟩
  have a2 : (B0 : Int) + 1 = B := hB.symm
  have a3 : (B0 : Int) ≤ 2305843009213693951 := by omega
  have a4 : (0 : Int) ≤ (B0 : Int) := by omega
  obtain ⟨A, hA⟩ : ∃ A : Int, A = a.tmod 4611686018427387904 := ⟨_, rfl⟩
  have hA1 : -4611686018427387904 < A ∧ A < 4611686018427387904 := by
    rw [hA]
    have h1 := Int.tmod_lt_of_pos a (show (0 : Int) < 4611686018427387904 by decide)
    have h2 : -4611686018427387904 < a.tmod 4611686018427387904 := Int.lt_tmod_of_pos a (by decide)
    exact ⟨h2, h1⟩
  have a5 : a.tmod 4611686018427387904 = A := hA.symm
  have a6 : IntKind.i64.wrap A = A := by rw [IntKind.wrap_i64]; omega
  have a6' : wrap64 A = A := by unfold wrap64; omega
  have hB1 : 0 < B ∧ B ≤ 2305843009213693952 := by omega
  obtain ⟨P, hP⟩ : ∃ P, P = A.fdiv B := ⟨_, rfl⟩
  obtain ⟨Q, hQ⟩ : ∃ Q, Q = -((-A).fdiv B) := ⟨_, rfl⟩
  obtain ⟨n, hn⟩ : ∃ n, n = (2 * A + B).fdiv (2 * B) := ⟨_, rfl⟩
  have nl := near_law A B hB1.1
  have fc := floor_le_ceil A B (by omega)
  rw [← hP, ← hQ, ← hn] at nl
  rw [← hP, ← hQ] at fc
  have hPa := fdiv_abs A B (by omega)
  rw [← hP] at hPa
  have hPl : -9223372036854775808 ≤ P ∧ P ≤ 9223372036854775807 := by omega
  have hQl : -9223372036854775808 ≤ Q ∧ Q ≤ 9223372036854775807 := by omega
  have hnl : -9223372036854775808 ≤ n ∧ n ≤ 9223372036854775807 := by rcases nl.1 with h | h <;> rw [h] <;> assumption
  have sA : Sm 63 A := Sm.of64 (by omega) (by omega)
  have sB : Sm 63 B := Sm.of64 (by omega) (by omega)
  have sn : Sm 63 n := Sm.of64 hnl.1 hnl.2
  have V1 : Hid (floorV (WI.of A) (WI.of B) = (P, 0)) := by
    show _ = _
    rw [floorV_of A B (sA.mono (by decide)) (sB.mono (by decide)) hB1.1, ← hP]; unfold fitI; rw [if_pos hPl]
  have V2 : Hid (ceilV (WI.of A) (WI.of B) = (Q, 0)) := by
    show _ = _
    rw [ceilV_of A B (sA.mono (by decide)) (sB.mono (by decide)) hB1.1, ← hQ]; unfold fitI; rw [if_pos hQl]
  have V3 : Hid (nearV (WI.of A) (WI.of B) = (n, 0)) := by
    show _ = _
    rw [nearV_of A B (sA.mono (by decide)) (sB.mono (by decide)) hB1.1, ← hn]; unfold fitI; rw [if_pos hnl]
  obtain ⟨D, hD⟩ : ∃ D, D = n * B - A := ⟨_, rfl⟩
  have hDs : Sm 127 D := by rw [hD]; exact (sn.mul sB).sub (sA.mono (by decide))
  have V4 : Hid (((WI.of n).mul (WI.of B)).sub (WI.of A) = WI.of D) := by
    show _ = _
    rw [WI.of_mul (sn.lim (by decide)) (sB.lim (by decide)), WI.of_sub ((sn.mul sB).lim (by decide)) (sA.lim (by decide)), hD]
  have V5 : Hid ((WI.of D).sign = D.sign) := WI.of_sign (hDs.lim (by decide))
  have V6 : Hid ((WI.of D).neg = WI.of (-D)) := WI.of_neg (hDs.lim (by decide))
  have V7 : Hid (∀ d, Sm 127 d → 2 * d ≤ B → ∃ k, (((WI.of d).add (WI.of d)).cmp (WI.of B)) = (k, true) ∧ k ≤ 0) := by
    intro d hd h
    rw [WI.of_add (hd.lim (by decide)) (hd.lim (by decide)), WI.of_cmp _ _ ((hd.add hd).lim (by decide)) (sB.lim (by decide))]
    refine ⟨_, rfl, ?_⟩
    split
    · decide
    · rw [if_neg (by omega)]; decide
  have HR : Hid ((-9223372036854775808 ≤ A ∧ A ≤ 9223372036854775807) ∧ (-9223372036854775808 ≤ B ∧ B ≤ 9223372036854775807) ∧ (-9223372036854775808 ≤ n ∧ n ≤ 9223372036854775807)) := ⟨⟨by omega, by omega⟩, ⟨by omega, by omega⟩, hnl⟩
  have hcase : (n = P) ∨ ((n != P) = true ∧ ¬ n = P ∧ n = Q) := by
    by_cases h : n = P
    · exact .inl h
    · exact .inr ⟨by simp [h], h, nl.1.resolve_left h⟩
  have hsg : (0 ≤ D ∧ 0 ≤ D.sign ∧ 2 * D ≤ B) ∨ (D < 0 ∧ D.sign < 0 ∧ 2 * (-D) ≤ B) := by
    rw [← hD] at nl
    by_cases h : D < 0
    · exact .inr ⟨h, by rw [Int.sign_eq_neg_one_of_neg h]; decide, by omega⟩
    · refine .inl ⟨by omega, ?_, by omega⟩
      exact Int.sign_nonneg_iff.2 (by omega)
  have HDS := Lib.hid hDs
  clear hB0 hB hA hA1 hB1 hP hQ hn nl fc hPa hPl hQl hnl sA sB sn hD hDs ha
  rcases hcase with rfl | ⟨n1, n2, rfl⟩
  all_goals
    go_enter Try.func7, Try.ntmps7
    go_wp2_with fail
    refine (of_c A HR.out.1.1 HR.out.1.2 _).mono ?_; rintro e w1 ⟨rfl, hb1⟩; have z1 := hb1.size
    go_wp2_with fail
    refine (of_c B HR.out.2.1.1 HR.out.2.1.2 _).mono ?_; rintro e w2 ⟨rfl, hb2⟩; have z2 := hb2.size
    go_wp2_with fail
    refine (floor_c _ _ _).mono ?_; rintro e w3 ⟨rfl, hb3⟩; rw [V1.out]; have z_w3 := hb3.size; (try simp at z_w3); obtain ⟨y_w3_0_0, c_w3_0_0, f_w3_0_0, r_w3_0_0, t_w3_0_0, p_w3_0_0⟩ := bk hb3 (w2.heap.size) (by first | omega | (simp; done) | (simp; omega) | fail); obtain ⟨y_w3_0_1, c_w3_0_1, f_w3_0_1, r_w3_0_1, t_w3_0_1, p_w3_0_1⟩ := bk hb3 (w2.heap.size + 1) (by first | omega | (simp; done) | (simp; omega) | fail)
    go_wp2_with fail
    refine (ceil_c _ _ _).mono ?_; rintro e w4 ⟨rfl, hb4⟩; rw [V2.out]; have z_w4 := hb4.size; (try simp at z_w4); obtain ⟨y_w4_0_0, c_w4_0_0, f_w4_0_0, r_w4_0_0, t_w4_0_0, p_w4_0_0⟩ := bk hb4 (w2.heap.size) (by first | omega | (simp; done) | (simp; omega) | fail); obtain ⟨y_w4_0_1, c_w4_0_1, f_w4_0_1, r_w4_0_1, t_w4_0_1, p_w4_0_1⟩ := bk hb4 (w2.heap.size + 1) (by first | omega | (simp; done) | (simp; omega) | fail)
    go_wp2_with fail
    refine (near_c _ _ _).mono ?_; rintro e w5 ⟨rfl, hb5⟩; rw [V3.out]; have z_w5 := hb5.size; (try simp at z_w5); obtain ⟨y_w5_0_0, c_w5_0_0, f_w5_0_0, r_w5_0_0, t_w5_0_0, p_w5_0_0⟩ := bk hb5 (w2.heap.size) (by first | omega | (simp; done) | (simp; omega) | fail); obtain ⟨y_w5_0_1, c_w5_0_1, f_w5_0_1, r_w5_0_1, t_w5_0_1, p_w5_0_1⟩ := bk hb5 (w2.heap.size + 1) (by first | omega | (simp; done) | (simp; omega) | fail)
    go_wp2_with fail
    go_cut [13] from 14 (fun s13 wc => ∃ g, s13 = .pointer (some ⟨g, 0, none⟩) ∧ w2.heap.size + 1 + 1 ≤ g ∧ g < wc.heap.size ∧ wc.row? g 0 18 = some (WI.of D).cells ∧ wc.fits g 18 = true ∧ wc.row? (w2.heap.size + 1) 0 18 = some (WI.of B).cells ∧ Hid (Below w.heap.size w wc))
    case first =>
      go_region_held3 (fun w' => w'.row? w2.heap.size 0 18 = some (WI.of A).cells ∧ w'.row? (w2.heap.size + 1) 0 18 = some (WI.of B).cells) (go_simp)
        (first
          | (go_at_call 19; refine (of_c n HR.out.2.2.1 HR.out.2.2.2 _).mono ?_; rintro e w6 ⟨rfl, hb6⟩; have z_w6 := hb6.size; (try simp at z_w6); obtain ⟨y_w6_0_0, c_w6_0_0, f_w6_0_0, r_w6_0_0, t_w6_0_0, p_w6_0_0⟩ := bk hb6 (w2.heap.size) (by first | omega | (simp; done) | (simp; omega) | fail); obtain ⟨y_w6_0_1, c_w6_0_1, f_w6_0_1, r_w6_0_1, t_w6_0_1, p_w6_0_1⟩ := bk hb6 (w2.heap.size + 1) (by first | omega | (simp; done) | (simp; omega) | fail); (try (refine with_imp (bk hb6 (w5.heap.size)) ?_ ?_; (focus (first | omega | (simp; done) | (simp; omega))); rintro ⟨y_w6_q1, c_w6_q1, f_w6_q1, r_w6_q1, t_w6_q1, p_w6_q1⟩; have n0_w6_q1 : ¬ (w2.heap.size = w5.heap.size) := (by omega); have n1_w6_q1 : ¬ (w2.heap.size + 1 = w5.heap.size) := (by omega))))
          | (go_at_call 18; refine (mul_I _ _ _).mono ?_; rintro e w7 ⟨rfl, hb7⟩; have z_w7 := hb7.size; (try simp at z_w7); obtain ⟨y_w7_0_0, c_w7_0_0, f_w7_0_0, r_w7_0_0, t_w7_0_0, p_w7_0_0⟩ := bk hb7 (w2.heap.size) (by first | omega | (simp; done) | (simp; omega) | fail); obtain ⟨y_w7_0_1, c_w7_0_1, f_w7_0_1, r_w7_0_1, t_w7_0_1, p_w7_0_1⟩ := bk hb7 (w2.heap.size + 1) (by first | omega | (simp; done) | (simp; omega) | fail); (try (refine with_imp (bk hb7 (w5.heap.size)) ?_ ?_; (focus (first | omega | (simp; done) | (simp; omega))); rintro ⟨y_w7_q1, c_w7_q1, f_w7_q1, r_w7_q1, t_w7_q1, p_w7_q1⟩; have n0_w7_q1 : ¬ (w2.heap.size = w5.heap.size) := (by omega); have n1_w7_q1 : ¬ (w2.heap.size + 1 = w5.heap.size) := (by omega))); (try (refine with_imp (bk hb7 (w6.heap.size)) ?_ ?_; (focus (first | omega | (simp; done) | (simp; omega))); rintro ⟨y_w7_q2, c_w7_q2, f_w7_q2, r_w7_q2, t_w7_q2, p_w7_q2⟩; have n0_w7_q2 : ¬ (w2.heap.size = w6.heap.size) := (by omega); have n1_w7_q2 : ¬ (w2.heap.size + 1 = w6.heap.size) := (by omega))))
          | (go_at_call 23; refine (sub_I _ _ _).mono ?_; rintro e w8 ⟨rfl, hb8⟩; rw [V4.out]; have z_w8 := hb8.size; (try simp at z_w8); obtain ⟨y_w8_0_0, c_w8_0_0, f_w8_0_0, r_w8_0_0, t_w8_0_0, p_w8_0_0⟩ := bk hb8 (w2.heap.size) (by first | omega | (simp; done) | (simp; omega) | fail); obtain ⟨y_w8_0_1, c_w8_0_1, f_w8_0_1, r_w8_0_1, t_w8_0_1, p_w8_0_1⟩ := bk hb8 (w2.heap.size + 1) (by first | omega | (simp; done) | (simp; omega) | fail); (try (refine with_imp (bk hb8 (w5.heap.size)) ?_ ?_; (focus (first | omega | (simp; done) | (simp; omega))); rintro ⟨y_w8_q1, c_w8_q1, f_w8_q1, r_w8_q1, t_w8_q1, p_w8_q1⟩; have n0_w8_q1 : ¬ (w2.heap.size = w5.heap.size) := (by omega); have n1_w8_q1 : ¬ (w2.heap.size + 1 = w5.heap.size) := (by omega))); (try (refine with_imp (bk hb8 (w6.heap.size)) ?_ ?_; (focus (first | omega | (simp; done) | (simp; omega))); rintro ⟨y_w8_q2, c_w8_q2, f_w8_q2, r_w8_q2, t_w8_q2, p_w8_q2⟩; have n0_w8_q2 : ¬ (w2.heap.size = w6.heap.size) := (by omega); have n1_w8_q2 : ¬ (w2.heap.size + 1 = w6.heap.size) := (by omega))); (try (refine with_imp (bk hb8 (w7.heap.size)) ?_ ?_; (focus (first | omega | (simp; done) | (simp; omega))); rintro ⟨y_w8_q3, c_w8_q3, f_w8_q3, r_w8_q3, t_w8_q3, p_w8_q3⟩; have n0_w8_q3 : ¬ (w2.heap.size = w7.heap.size) := (by omega); have n1_w8_q3 : ¬ (w2.heap.size + 1 = w7.heap.size) := (by omega)))))
      all_goals go_wp2_with fail
      all_goals go_meet
      all_goals exact ⟨_, rfl, (by first | omega | (simp; done) | (simp; omega) | fail), (by first | omega | (simp; done) | (simp; omega) | fail), (by go_simp), (by go_simp), (by go_simp), (by repeat (first | exact Below.refl _ _ | exact Below_of_hid (by assumption) | refine Below.drew ?_ | refine below_drewN ?_ _ | refine Below_putRow ?_ (by first | omega | (simp; done) | (simp; omega) | fail) _ _ | refine Below.alloc ?_ (by first | omega | (simp; done) | (simp; omega) | fail) _ | refine Below.setCell ?_ (by first | omega | (simp; done) | (simp; omega) | fail) _ | refine Below.trans ?_ (Below.mono (by assumption) (by first | omega | (simp; done) | (simp; omega) | fail))))⟩
    case rest =>
      obtain ⟨g, rfl, hg1, hg2, hgr, hgf, hBr, HBL⟩ := hcut
      have yB : w2.heap.size + 1 < wc.heap.size := by omega
      have ngB : ¬ (w2.heap.size + 1 = g) := by omega
      rcases hsg with ⟨q1, q2, q3⟩ | ⟨q1, q2, q3⟩
      · obtain ⟨k, hk1, hk2⟩ := V7.out D HDS.out q3
        have HK := Lib.hid hk1
        have q4 : ¬ D < 0 := by omega
        clear hk1 q3
        go_wp2_with fail
        refine (sign_I _ _).mono ?_; rintro e w9 ⟨rfl, hb9⟩; rw [V5.out]; have z_w9 := hb9.size; (try simp at z_w9); obtain ⟨y_w9_g, c_w9_g, f_w9_g, r_w9_g, t_w9_g, p_w9_g⟩ := bk hb9 (g) (by first | omega | (simp; done) | (simp; omega) | fail)
        obtain ⟨y_B, c_B, f_B, r_B, t_B, p_B⟩ := bk hb9 (w2.heap.size + 1) yB
        go_wp2_with fail
        go_region_held3 (fun w' => w'.row? g 0 18 = some (WI.of D).cells ∧ w'.row? (w2.heap.size + 1) 0 18 = some (WI.of B).cells) (go_simp)
          (first
            | (go_at_call 26; refine (add_I _ _ _).mono ?_; rintro e wa ⟨rfl, hba⟩; have z_wa := hba.size; (try simp at z_wa); obtain ⟨y_wa_g, c_wa_g, f_wa_g, r_wa_g, t_wa_g, p_wa_g⟩ := bk hba (g) (by first | omega | (simp; done) | (simp; omega) | fail); obtain ⟨y_wa_1_0, c_wa_1_0, f_wa_1_0, r_wa_1_0, t_wa_1_0, p_wa_1_0⟩ := bk hba (w2.heap.size) (by first | omega | (simp; done) | (simp; omega) | fail); obtain ⟨y_wa_1_1, c_wa_1_1, f_wa_1_1, r_wa_1_1, t_wa_1_1, p_wa_1_1⟩ := bk hba (w2.heap.size + 1) (by first | omega | (simp; done) | (simp; omega) | fail))
            | (go_at_call 17; refine (cmp_I _ _ _).mono ?_; rintro e wb ⟨rfl, hbb⟩; rw [HK.out]; have z_wb := hbb.size; (try simp at z_wb); obtain ⟨y_wb_g, c_wb_g, f_wb_g, r_wb_g, t_wb_g, p_wb_g⟩ := bk hbb (g) (by first | omega | (simp; done) | (simp; omega) | fail); obtain ⟨y_wb_1_0, c_wb_1_0, f_wb_1_0, r_wb_1_0, t_wb_1_0, p_wb_1_0⟩ := bk hbb (w2.heap.size) (by first | omega | (simp; done) | (simp; omega) | fail); obtain ⟨y_wb_1_1, c_wb_1_1, f_wb_1_1, r_wb_1_1, t_wb_1_1, p_wb_1_1⟩ := bk hbb (w2.heap.size + 1) (by first | omega | (simp; done) | (simp; omega) | fail)))
        all_goals go_wp2_with fail
        all_goals (refine (awake_c _).mono ?_; rintro e wd ⟨rfl, hbd⟩)
        all_goals go_wp2_with fail
        all_goals go_ret
        all_goals exact ⟨rfl, (by repeat (first | exact Below.refl _ _ | exact Below_of_hid (by assumption) | refine Below.drew ?_ | refine below_drewN ?_ _ | refine Below_putRow ?_ (by first | omega | (simp; done) | (simp; omega) | fail) _ _ | refine Below.alloc ?_ (by first | omega | (simp; done) | (simp; omega) | fail) _ | refine Below.setCell ?_ (by first | omega | (simp; done) | (simp; omega) | fail) _ | refine Below.trans ?_ (Below.mono (by assumption) (by first | omega | (simp; done) | (simp; omega) | fail))))⟩
      · obtain ⟨k, hk1, hk2⟩ := V7.out (-D) (HDS.out.neg) q3
        have HK := Lib.hid hk1
        clear hk1 q3
        go_wp2_with fail
        refine (sign_I _ _).mono ?_; rintro e w9 ⟨rfl, hb9⟩; rw [V5.out]; have z_w9 := hb9.size; (try simp at z_w9); obtain ⟨y_w9_g, c_w9_g, f_w9_g, r_w9_g, t_w9_g, p_w9_g⟩ := bk hb9 (g) (by first | omega | (simp; done) | (simp; omega) | fail)
        obtain ⟨y_B, c_B, f_B, r_B, t_B, p_B⟩ := bk hb9 (w2.heap.size + 1) yB
        go_wp2_with fail
        refine (neg_I _ _).mono ?_; rintro e we ⟨rfl, hbe⟩; rw [V6.out]; have z_we := hbe.size; (try simp at z_we); obtain ⟨y_we_g, c_we_g, f_we_g, r_we_g, t_we_g, p_we_g⟩ := bk hbe (g) (by first | omega | (simp; done) | (simp; omega) | fail)
        obtain ⟨y_C, c_C, f_C, r_C, t_C, p_C⟩ := bk hbe (w2.heap.size + 1) y_B
        go_wp2_with fail
        go_region_held3 (fun w' => w'.row? g 0 18 = some (WI.of (-D)).cells ∧ w'.row? (w2.heap.size + 1) 0 18 = some (WI.of B).cells) (go_simp)
          (first
            | (go_at_call 26; refine (add_I _ _ _).mono ?_; rintro e wa ⟨rfl, hba⟩; have z_wa := hba.size; (try simp at z_wa); obtain ⟨y_wa_g, c_wa_g, f_wa_g, r_wa_g, t_wa_g, p_wa_g⟩ := bk hba (g) (by first | omega | (simp; done) | (simp; omega) | fail); obtain ⟨y_wa_1_0, c_wa_1_0, f_wa_1_0, r_wa_1_0, t_wa_1_0, p_wa_1_0⟩ := bk hba (w2.heap.size) (by first | omega | (simp; done) | (simp; omega) | fail); obtain ⟨y_wa_1_1, c_wa_1_1, f_wa_1_1, r_wa_1_1, t_wa_1_1, p_wa_1_1⟩ := bk hba (w2.heap.size + 1) (by first | omega | (simp; done) | (simp; omega) | fail))
            | (go_at_call 17; refine (cmp_I _ _ _).mono ?_; rintro e wb ⟨rfl, hbb⟩; rw [HK.out]; have z_wb := hbb.size; (try simp at z_wb); obtain ⟨y_wb_g, c_wb_g, f_wb_g, r_wb_g, t_wb_g, p_wb_g⟩ := bk hbb (g) (by first | omega | (simp; done) | (simp; omega) | fail); obtain ⟨y_wb_1_0, c_wb_1_0, f_wb_1_0, r_wb_1_0, t_wb_1_0, p_wb_1_0⟩ := bk hbb (w2.heap.size) (by first | omega | (simp; done) | (simp; omega) | fail); obtain ⟨y_wb_1_1, c_wb_1_1, f_wb_1_1, r_wb_1_1, t_wb_1_1, p_wb_1_1⟩ := bk hbb (w2.heap.size + 1) (by first | omega | (simp; done) | (simp; omega) | fail)))
        all_goals go_wp2_with fail
        all_goals (refine (awake_c _).mono ?_; rintro e wd ⟨rfl, hbd⟩)
        all_goals go_wp2_with fail
        all_goals go_ret
        all_goals exact ⟨rfl, (by repeat (first | exact Below.refl _ _ | exact Below_of_hid (by assumption) | refine Below.drew ?_ | refine below_drewN ?_ _ | refine Below_putRow ?_ (by first | omega | (simp; done) | (simp; omega) | fail) _ _ | refine Below.alloc ?_ (by first | omega | (simp; done) | (simp; omega) | fail) _ | refine Below.setCell ?_ (by first | omega | (simp; done) | (simp; omega) | fail) _ | refine Below.trans ?_ (Below.mono (by assumption) (by first | omega | (simp; done) | (simp; omega) | fail))))⟩
end Go.Proofs.Ytkfdfgecfedeiaa
