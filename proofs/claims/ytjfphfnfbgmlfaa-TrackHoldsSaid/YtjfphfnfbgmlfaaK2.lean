/- awake of the laws of track; the walk of TrackLater. -/
import Derived.Test.YtjfphfnfbgmlfaaK1
namespace Go.Proofs.Ytjfphfnfbgmlfaa
open Go.RowKit

theorem at_eight : atE ⟨0, 0, 64, 0, 64⟩ 5 8 0 1 = (⟨0, 0, 64, 0, 64⟩, 0) := by
  have hm : El.may ⟨0, 0, 64, 0, 64⟩ = true := by decide
  unfold atE
  rw [if_pos ⟨hm, by decide, by decide, by decide, by decide, by decide⟩]
  have : ticksE 5 8 1 = 6 := by decide
  rw [this]
  unfold ageE
  rw [if_pos ⟨hm, by decide, by decide⟩, if_neg (by decide)]
  exact growE_zero _ hm
set_option maxHeartbeats 1000000 in
theorem awake19_c (w : World) : Calls Try.prog 25 #[] w fun e w' => e = .returned (.bool true) ∧ Below w.heap.size w w' := by
  have h1 : Hid (ballE 0 0 8 = (⟨0, 0, 64, 0, 64⟩, 0)) := show _ = _ from rfl
  have h2 := Lib.hid at_eight
  have h3 : Hid (ticksE 5 8 1 = 6) := by show _ = _; decide
  go_enter Try.func25, Try.ntmps25
  go_wp2_with fail
  refine (ellball_v _ _ _ _ _ _ _ _ _ h1.out _).mono ?_; rintro e w1 ⟨rfl, hb1⟩; have s1 := hb1.size
  go_wp2_with fail
  refine (at_v _ _ _ _ _ _ _ _ _ _ _ _ _ _ _ h2.out _).mono ?_; rintro e w2 ⟨rfl, hb2⟩; have z_w2 := hb2.size; (try simp at z_w2); obtain ⟨y_w2_0_0, c_w2_0_0, f_w2_0_0, r_w2_0_0, t_w2_0_0, p_w2_0_0⟩ := bk hb2 (w1.heap.size) (by first | omega | (simp; done) | (simp; omega) | fail)
  go_wp2_with fail
  refine (ticks_v _ _ _ _ h3.out _).mono ?_; rintro e w3 ⟨rfl, hb3⟩; have z_w3 := hb3.size; (try simp at z_w3); obtain ⟨y_w3_0_0, c_w3_0_0, f_w3_0_0, r_w3_0_0, t_w3_0_0, p_w3_0_0⟩ := bk hb3 (w1.heap.size) (by first | omega | (simp; done) | (simp; omega) | fail); obtain ⟨y_w3_1_0, c_w3_1_0, f_w3_1_0, r_w3_1_0, t_w3_1_0, p_w3_1_0⟩ := bk hb3 (w2.heap.size) (by first | omega | (simp; done) | (simp; omega) | fail)
  go_wp2
  go_ret
  exact ⟨rfl, (by repeat (first | with_reducible exact Below.refl _ _ | with_reducible exact Below_of_hid (by assumption) | with_reducible refine Below.drew ?_ | with_reducible refine below_drewN ?_ _ | (with_reducible refine Below_putRow ?_ ?hB _ _; case hB => (first | omega | (simp; done) | (simp; omega))) | (with_reducible refine Below.alloc ?_ ?hB _; case hB => (first | omega | (simp; done) | (simp; omega))) | (with_reducible refine Below.setCell ?_ ?hB _; case hB => (first | omega | (simp; done) | (simp; omega))) | (with_reducible refine Below.trans ?_ (Below.mono (by assumption) ?hB); case hB => (first | omega | (simp; done) | (simp; omega)))))⟩
theorem atE_bad (e : El) (h : e.may = false) (t u v s : Int) : atE e t u v s = (El.zero, 1) := by
  unfold atE; rw [if_neg]; rintro ⟨h1, _⟩; rw [h] at h1; cases h1
theorem atE_ok {e g : El} {t u v s : Int} (h : atE e t u v s = (g, 0)) : growE e (v * ticksE t u s) = (g, 0) := by
  unfold atE at h; split at h
  · exact (ageE_ok h).1
  · injection h with _ h2; cases h2
theorem grow_leastB {e g : El} {r : Int} (h : growE e r = (g, 0)) : leastB g.a g.b g.d e.a e.b e.d = true := by
  obtain ⟨he, _, _, ⟨_, rfl⟩ | ⟨_, h3⟩⟩ := growE_ok h
  · exact least_refl _ _ _ (El.may_mat _ he)
  · exact sum_leastB h3
theorem ticks_later (W A B S M : Int) (h1 : 0 ≤ W ∧ W < 1000) (h2 : 0 ≤ A ∧ A < 100) (h3 : 0 ≤ B ∧ B < 100) (h4 : 0 ≤ S ∧ S < 5) (h5 : 0 ≤ M ∧ M < 5) :
    ticksE W (W + A) S = A + 2 * S + 1 ∧ ticksE W (W + A + B) (S + M) = A + 2 * S + 1 + B + 2 * M := by
  unfold ticksE
  rw [if_pos (by simp only [timeB_iff]; omega), if_pos (by simp only [timeB_iff]; omega)]
  omega
set_option maxRecDepth 100000 in
set_option maxHeartbeats 4000000 in
theorem trackLater_c (x y a b d p q n1 n2 n3 n4 n5 n6 : Int) (w : World) :
    Calls Try.prog 9 #[elC x y a b d, ptV p q, .int .i64 n1, .int .i64 n2, .int .i64 n3, .int .i64 n4, .int .i64 n5, .int .i64 n6] w fun e w' => e = .returned (.bool true) ∧ Below w.heap.size w w' := by
  obtain ⟨W, hW⟩ : ∃ K, wrap64 ((IntKind.u64.wrap n1).tmod 1000) = K := ⟨_, rfl⟩
  obtain ⟨A, hA⟩ : ∃ K, wrap64 ((IntKind.u64.wrap n2).tmod 100) = K := ⟨_, rfl⟩
  obtain ⟨B, hB⟩ : ∃ K, wrap64 ((IntKind.u64.wrap n3).tmod 100) = K := ⟨_, rfl⟩
  obtain ⟨V, hV⟩ : ∃ K, wrap64 ((IntKind.u64.wrap n4).tmod 50) = K := ⟨_, rfl⟩
  obtain ⟨S, hS⟩ : ∃ K, wrap64 ((IntKind.u64.wrap n5).tmod 5) = K := ⟨_, rfl⟩
  obtain ⟨M, hM⟩ : ∃ K, wrap64 ((IntKind.u64.wrap n6).tmod 5) = K := ⟨_, rfl⟩
  have W0 : 0 ≤ W ∧ W < 1000 := by rw [← hW]; exact rem_range n1 1000 (by decide) (by decide)
  have A0 : 0 ≤ A ∧ A < 100 := by rw [← hA]; exact rem_range n2 100 (by decide) (by decide)
  have B0 : 0 ≤ B ∧ B < 100 := by rw [← hB]; exact rem_range n3 100 (by decide) (by decide)
  have V0 : 0 ≤ V ∧ V < 50 := by rw [← hV]; exact rem_range n4 50 (by decide) (by decide)
  have S0 : 0 ≤ S ∧ S < 5 := by rw [← hS]; exact rem_range n5 5 (by decide) (by decide)
  have M0 : 0 ≤ M ∧ M < 5 := by rw [← hM]; exact rem_range n6 5 (by decide) (by decide)
  obtain ⟨t1, t2⟩ := ticks_later W A B S M W0 A0 B0 S0 M0
  obtain ⟨⟨ox, oy, oa, ob, od⟩, k, ho⟩ : ∃ o k, atE ⟨x, y, a, b, d⟩ W (W + A) V S = (o, k) := ⟨_, _, rfl⟩
  obtain ⟨⟨gx, gy, ga, gb, gd⟩, l, hg⟩ : ∃ o k, atE ⟨x, y, a, b, d⟩ W (W + A + B) V (S + M) = (o, k) := ⟨_, _, rfl⟩
  have HO := Lib.hid ho
  have HG := Lib.hid hg
  obtain ⟨W1, W2⟩ := W0
  obtain ⟨A1, A2⟩ := A0
  obtain ⟨B1, B2⟩ := B0
  obtain ⟨V1, V2⟩ := V0
  obtain ⟨S1, S2⟩ := S0
  obtain ⟨M1, M2⟩ := M0
  cases hm : El.may ⟨x, y, a, b, d⟩ with
  | false =>
    rw [atE_bad _ hm] at ho hg
    injection ho with ho1 ho2; injection hg with hg1 hg2
    subst ho2; subst hg2
    have HM := Lib.hid hm
    clear ho1 hg1 hm t1 t2
    go_enter Try.func9, Try.ntmps9
    go_wp2_with fail
    refine (at_v _ _ _ _ _ _ _ _ _ _ _ _ _ _ _ HO.out _).mono ?_; rintro e w1 ⟨rfl, hb1⟩; have z_w1 := hb1.size; (try simp at z_w1); obtain ⟨y_w1_0_0, c_w1_0_0, f_w1_0_0, r_w1_0_0, t_w1_0_0, p_w1_0_0⟩ := bk hb1 (w.heap.size) (by first | omega | (simp; done) | (simp; omega) | fail); obtain ⟨y_w1_0_1, c_w1_0_1, f_w1_0_1, r_w1_0_1, t_w1_0_1, p_w1_0_1⟩ := bk hb1 (w.heap.size + 1) (by first | omega | (simp; done) | (simp; omega) | fail)
    go_wp2_with fail
    refine (at_v _ _ _ _ _ _ _ _ _ _ _ _ _ _ _ HG.out _).mono ?_; rintro e w2 ⟨rfl, hb2⟩; have z_w2 := hb2.size; (try simp at z_w2); obtain ⟨y_w2_0_0, c_w2_0_0, f_w2_0_0, r_w2_0_0, t_w2_0_0, p_w2_0_0⟩ := bk hb2 (w.heap.size) (by first | omega | (simp; done) | (simp; omega) | fail); obtain ⟨y_w2_0_1, c_w2_0_1, f_w2_0_1, r_w2_0_1, t_w2_0_1, p_w2_0_1⟩ := bk hb2 (w.heap.size + 1) (by first | omega | (simp; done) | (simp; omega) | fail)
    go_wp2_with fail
    refine (ellmay_v _ _ _ _ _ _ HM.out _).mono ?_; rintro e w3 ⟨rfl, hb3⟩; have z_w3 := hb3.size; (try simp at z_w3); obtain ⟨y_w3_0_0, c_w3_0_0, f_w3_0_0, r_w3_0_0, t_w3_0_0, p_w3_0_0⟩ := bk hb3 (w.heap.size) (by first | omega | (simp; done) | (simp; omega) | fail); obtain ⟨y_w3_0_1, c_w3_0_1, f_w3_0_1, r_w3_0_1, t_w3_0_1, p_w3_0_1⟩ := bk hb3 (w.heap.size + 1) (by first | omega | (simp; done) | (simp; omega) | fail)
    go_wp2_with fail
    refine (awake19_c _).mono ?_; rintro e w4 ⟨rfl, hb4⟩
    go_wp2
    go_ret
    exact ⟨rfl, (by repeat (first | with_reducible exact Below.refl _ _ | with_reducible exact Below_of_hid (by assumption) | with_reducible refine Below.drew ?_ | with_reducible refine below_drewN ?_ _ | (with_reducible refine Below_putRow ?_ ?hB _ _; case hB => (first | omega | (simp; done) | (simp; omega))) | (with_reducible refine Below.alloc ?_ ?hB _; case hB => (first | omega | (simp; done) | (simp; omega))) | (with_reducible refine Below.setCell ?_ ?hB _; case hB => (first | omega | (simp; done) | (simp; omega))) | (with_reducible refine Below.trans ?_ (Below.mono (by assumption) ?hB); case hB => (first | omega | (simp; done) | (simp; omega)))))⟩
  | true =>
    by_cases hk : k = 0
    · subst hk
      by_cases hl : l = 0
      · subst hl
        have g1 := atE_ok ho
        have g2 := atE_ok hg
        have HL : Hid (leastB oa ob od a b d = true) := grow_leastB g1
        have gc := grow_centre g1
        obtain ⟨c1, c2, -⟩ := gc
        simp only at c1 c2
        subst c1; subst c2
        have HT1 := Lib.hid t1
        have HT2 := Lib.hid t2
        cases hp : El.has ⟨ox, oy, a, b, d⟩ p q with
        | false =>
          have HP := Lib.hid hp
          clear ho hg hm g1 g2 hp t1 t2
          go_enter Try.func9, Try.ntmps9
          go_wp2_with fail
          refine (at_v _ _ _ _ _ _ _ _ _ _ _ _ _ _ _ HO.out _).mono ?_; rintro e w1 ⟨rfl, hb1⟩; have z_w1 := hb1.size; (try simp at z_w1); obtain ⟨y_w1_0_0, c_w1_0_0, f_w1_0_0, r_w1_0_0, t_w1_0_0, p_w1_0_0⟩ := bk hb1 (w.heap.size) (by first | omega | (simp; done) | (simp; omega) | fail); obtain ⟨y_w1_0_1, c_w1_0_1, f_w1_0_1, r_w1_0_1, t_w1_0_1, p_w1_0_1⟩ := bk hb1 (w.heap.size + 1) (by first | omega | (simp; done) | (simp; omega) | fail)
          go_wp2_with fail
          refine (at_v _ _ _ _ _ _ _ _ _ _ _ _ _ _ _ HG.out _).mono ?_; rintro e w2 ⟨rfl, hb2⟩; have z_w2 := hb2.size; (try simp at z_w2); obtain ⟨y_w2_0_0, c_w2_0_0, f_w2_0_0, r_w2_0_0, t_w2_0_0, p_w2_0_0⟩ := bk hb2 (w.heap.size) (by first | omega | (simp; done) | (simp; omega) | fail); obtain ⟨y_w2_0_1, c_w2_0_1, f_w2_0_1, r_w2_0_1, t_w2_0_1, p_w2_0_1⟩ := bk hb2 (w.heap.size + 1) (by first | omega | (simp; done) | (simp; omega) | fail); obtain ⟨y_w2_1_0, c_w2_1_0, f_w2_1_0, r_w2_1_0, t_w2_1_0, p_w2_1_0⟩ := bk hb2 (w1.heap.size) (by first | omega | (simp; done) | (simp; omega) | fail)
          go_wp2_with fail
          refine (least_v _ _ _ _ _ _ _ HL.out _).mono ?_; rintro e w3 ⟨rfl, hb3⟩; have z_w3 := hb3.size; (try simp at z_w3); obtain ⟨y_w3_0_0, c_w3_0_0, f_w3_0_0, r_w3_0_0, t_w3_0_0, p_w3_0_0⟩ := bk hb3 (w.heap.size) (by first | omega | (simp; done) | (simp; omega) | fail); obtain ⟨y_w3_0_1, c_w3_0_1, f_w3_0_1, r_w3_0_1, t_w3_0_1, p_w3_0_1⟩ := bk hb3 (w.heap.size + 1) (by first | omega | (simp; done) | (simp; omega) | fail); obtain ⟨y_w3_1_0, c_w3_1_0, f_w3_1_0, r_w3_1_0, t_w3_1_0, p_w3_1_0⟩ := bk hb3 (w1.heap.size) (by first | omega | (simp; done) | (simp; omega) | fail); obtain ⟨y_w3_2_0, c_w3_2_0, f_w3_2_0, r_w3_2_0, t_w3_2_0, p_w3_2_0⟩ := bk hb3 (w2.heap.size) (by first | omega | (simp; done) | (simp; omega) | fail)
          go_wp2_with fail
          refine (ellin_v _ _ _ _ _ _ _ _ HP.out _).mono ?_; rintro e w4 ⟨rfl, hb4⟩; have z_w4 := hb4.size; (try simp at z_w4); obtain ⟨y_w4_0_0, c_w4_0_0, f_w4_0_0, r_w4_0_0, t_w4_0_0, p_w4_0_0⟩ := bk hb4 (w.heap.size) (by first | omega | (simp; done) | (simp; omega) | fail); obtain ⟨y_w4_0_1, c_w4_0_1, f_w4_0_1, r_w4_0_1, t_w4_0_1, p_w4_0_1⟩ := bk hb4 (w.heap.size + 1) (by first | omega | (simp; done) | (simp; omega) | fail); obtain ⟨y_w4_1_0, c_w4_1_0, f_w4_1_0, r_w4_1_0, t_w4_1_0, p_w4_1_0⟩ := bk hb4 (w1.heap.size) (by first | omega | (simp; done) | (simp; omega) | fail); obtain ⟨y_w4_2_0, c_w4_2_0, f_w4_2_0, r_w4_2_0, t_w4_2_0, p_w4_2_0⟩ := bk hb4 (w2.heap.size) (by first | omega | (simp; done) | (simp; omega) | fail)
          go_wp2_with fail
          refine (ticks_v _ _ _ _ HT2.out _).mono ?_; rintro e w5 ⟨rfl, hb5⟩; have z_w5 := hb5.size; (try simp at z_w5); obtain ⟨y_w5_0_0, c_w5_0_0, f_w5_0_0, r_w5_0_0, t_w5_0_0, p_w5_0_0⟩ := bk hb5 (w.heap.size) (by first | omega | (simp; done) | (simp; omega) | fail); obtain ⟨y_w5_0_1, c_w5_0_1, f_w5_0_1, r_w5_0_1, t_w5_0_1, p_w5_0_1⟩ := bk hb5 (w.heap.size + 1) (by first | omega | (simp; done) | (simp; omega) | fail); obtain ⟨y_w5_1_0, c_w5_1_0, f_w5_1_0, r_w5_1_0, t_w5_1_0, p_w5_1_0⟩ := bk hb5 (w1.heap.size) (by first | omega | (simp; done) | (simp; omega) | fail); obtain ⟨y_w5_2_0, c_w5_2_0, f_w5_2_0, r_w5_2_0, t_w5_2_0, p_w5_2_0⟩ := bk hb5 (w2.heap.size) (by first | omega | (simp; done) | (simp; omega) | fail)
          go_wp2_with fail
          refine (ticks_v _ _ _ _ HT1.out _).mono ?_; rintro e w6 ⟨rfl, hb6⟩; have z_w6 := hb6.size; (try simp at z_w6); obtain ⟨y_w6_0_0, c_w6_0_0, f_w6_0_0, r_w6_0_0, t_w6_0_0, p_w6_0_0⟩ := bk hb6 (w.heap.size) (by first | omega | (simp; done) | (simp; omega) | fail); obtain ⟨y_w6_0_1, c_w6_0_1, f_w6_0_1, r_w6_0_1, t_w6_0_1, p_w6_0_1⟩ := bk hb6 (w.heap.size + 1) (by first | omega | (simp; done) | (simp; omega) | fail); obtain ⟨y_w6_1_0, c_w6_1_0, f_w6_1_0, r_w6_1_0, t_w6_1_0, p_w6_1_0⟩ := bk hb6 (w1.heap.size) (by first | omega | (simp; done) | (simp; omega) | fail); obtain ⟨y_w6_2_0, c_w6_2_0, f_w6_2_0, r_w6_2_0, t_w6_2_0, p_w6_2_0⟩ := bk hb6 (w2.heap.size) (by first | omega | (simp; done) | (simp; omega) | fail)
          go_wp2_with fail
          refine (awake19_c _).mono ?_; rintro e w7 ⟨rfl, hb7⟩
          go_wp2
          go_ret
          exact ⟨rfl, (by repeat (first | with_reducible exact Below.refl _ _ | with_reducible exact Below_of_hid (by assumption) | with_reducible refine Below.drew ?_ | with_reducible refine below_drewN ?_ _ | (with_reducible refine Below_putRow ?_ ?hB _ _; case hB => (first | omega | (simp; done) | (simp; omega))) | (with_reducible refine Below.alloc ?_ ?hB _; case hB => (first | omega | (simp; done) | (simp; omega))) | (with_reducible refine Below.setCell ?_ ?hB _; case hB => (first | omega | (simp; done) | (simp; omega))) | (with_reducible refine Below.trans ?_ (Below.mono (by assumption) ?hB); case hB => (first | omega | (simp; done) | (simp; omega)))))⟩
        | true =>
          have z0 : (0 : Int) * 0 + 0 * 0 ≤ (V * ticksE W (W + A) S) * (V * ticksE W (W + A) S) := by simpa using int_sq_nonneg _
          have z1 : (0 : Int) * 0 + 0 * 0 ≤ (V * ticksE W (W + A + B) (S + M)) * (V * ticksE W (W + A + B) (S + M)) := by simpa using int_sq_nonneg _
          have h1 := grow_holds g1 p q 0 0 hp z0
          have h2 := grow_holds g2 p q 0 0 hp z1
          rw [Int.add_zero, Int.add_zero] at h1 h2
          have HP := Lib.hid hp
          have HP1 := Lib.hid h1
          have HP2 := Lib.hid h2
          clear ho hg hm g1 g2 hp h1 h2 t1 t2 z0 z1
          go_enter Try.func9, Try.ntmps9
          go_wp2_with fail
          refine (at_v _ _ _ _ _ _ _ _ _ _ _ _ _ _ _ HO.out _).mono ?_; rintro e w1 ⟨rfl, hb1⟩; have z_w1 := hb1.size; (try simp at z_w1); obtain ⟨y_w1_0_0, c_w1_0_0, f_w1_0_0, r_w1_0_0, t_w1_0_0, p_w1_0_0⟩ := bk hb1 (w.heap.size) (by first | omega | (simp; done) | (simp; omega) | fail); obtain ⟨y_w1_0_1, c_w1_0_1, f_w1_0_1, r_w1_0_1, t_w1_0_1, p_w1_0_1⟩ := bk hb1 (w.heap.size + 1) (by first | omega | (simp; done) | (simp; omega) | fail)
          go_wp2_with fail
          refine (at_v _ _ _ _ _ _ _ _ _ _ _ _ _ _ _ HG.out _).mono ?_; rintro e w2 ⟨rfl, hb2⟩; have z_w2 := hb2.size; (try simp at z_w2); obtain ⟨y_w2_0_0, c_w2_0_0, f_w2_0_0, r_w2_0_0, t_w2_0_0, p_w2_0_0⟩ := bk hb2 (w.heap.size) (by first | omega | (simp; done) | (simp; omega) | fail); obtain ⟨y_w2_0_1, c_w2_0_1, f_w2_0_1, r_w2_0_1, t_w2_0_1, p_w2_0_1⟩ := bk hb2 (w.heap.size + 1) (by first | omega | (simp; done) | (simp; omega) | fail); obtain ⟨y_w2_1_0, c_w2_1_0, f_w2_1_0, r_w2_1_0, t_w2_1_0, p_w2_1_0⟩ := bk hb2 (w1.heap.size) (by first | omega | (simp; done) | (simp; omega) | fail)
          go_wp2_with fail
          refine (least_v _ _ _ _ _ _ _ HL.out _).mono ?_; rintro e w3 ⟨rfl, hb3⟩; have z_w3 := hb3.size; (try simp at z_w3); obtain ⟨y_w3_0_0, c_w3_0_0, f_w3_0_0, r_w3_0_0, t_w3_0_0, p_w3_0_0⟩ := bk hb3 (w.heap.size) (by first | omega | (simp; done) | (simp; omega) | fail); obtain ⟨y_w3_0_1, c_w3_0_1, f_w3_0_1, r_w3_0_1, t_w3_0_1, p_w3_0_1⟩ := bk hb3 (w.heap.size + 1) (by first | omega | (simp; done) | (simp; omega) | fail); obtain ⟨y_w3_1_0, c_w3_1_0, f_w3_1_0, r_w3_1_0, t_w3_1_0, p_w3_1_0⟩ := bk hb3 (w1.heap.size) (by first | omega | (simp; done) | (simp; omega) | fail); obtain ⟨y_w3_2_0, c_w3_2_0, f_w3_2_0, r_w3_2_0, t_w3_2_0, p_w3_2_0⟩ := bk hb3 (w2.heap.size) (by first | omega | (simp; done) | (simp; omega) | fail)
          go_wp2_with fail
          refine (ellin_v _ _ _ _ _ _ _ _ HP.out _).mono ?_; rintro e w4 ⟨rfl, hb4⟩; have z_w4 := hb4.size; (try simp at z_w4); obtain ⟨y_w4_0_0, c_w4_0_0, f_w4_0_0, r_w4_0_0, t_w4_0_0, p_w4_0_0⟩ := bk hb4 (w.heap.size) (by first | omega | (simp; done) | (simp; omega) | fail); obtain ⟨y_w4_0_1, c_w4_0_1, f_w4_0_1, r_w4_0_1, t_w4_0_1, p_w4_0_1⟩ := bk hb4 (w.heap.size + 1) (by first | omega | (simp; done) | (simp; omega) | fail); obtain ⟨y_w4_1_0, c_w4_1_0, f_w4_1_0, r_w4_1_0, t_w4_1_0, p_w4_1_0⟩ := bk hb4 (w1.heap.size) (by first | omega | (simp; done) | (simp; omega) | fail); obtain ⟨y_w4_2_0, c_w4_2_0, f_w4_2_0, r_w4_2_0, t_w4_2_0, p_w4_2_0⟩ := bk hb4 (w2.heap.size) (by first | omega | (simp; done) | (simp; omega) | fail)
          go_wp2_with fail
          refine (ellin_v _ _ _ _ _ _ _ _ HP1.out _).mono ?_; rintro e w8 ⟨rfl, hb8⟩; have z_w8 := hb8.size; (try simp at z_w8); obtain ⟨y_w8_0_0, c_w8_0_0, f_w8_0_0, r_w8_0_0, t_w8_0_0, p_w8_0_0⟩ := bk hb8 (w.heap.size) (by first | omega | (simp; done) | (simp; omega) | fail); obtain ⟨y_w8_0_1, c_w8_0_1, f_w8_0_1, r_w8_0_1, t_w8_0_1, p_w8_0_1⟩ := bk hb8 (w.heap.size + 1) (by first | omega | (simp; done) | (simp; omega) | fail); obtain ⟨y_w8_1_0, c_w8_1_0, f_w8_1_0, r_w8_1_0, t_w8_1_0, p_w8_1_0⟩ := bk hb8 (w1.heap.size) (by first | omega | (simp; done) | (simp; omega) | fail); obtain ⟨y_w8_2_0, c_w8_2_0, f_w8_2_0, r_w8_2_0, t_w8_2_0, p_w8_2_0⟩ := bk hb8 (w2.heap.size) (by first | omega | (simp; done) | (simp; omega) | fail)
          go_wp2_with fail
          refine (ellin_v _ _ _ _ _ _ _ _ HP2.out _).mono ?_; rintro e w9 ⟨rfl, hb9⟩; have z_w9 := hb9.size; (try simp at z_w9); obtain ⟨y_w9_0_0, c_w9_0_0, f_w9_0_0, r_w9_0_0, t_w9_0_0, p_w9_0_0⟩ := bk hb9 (w.heap.size) (by first | omega | (simp; done) | (simp; omega) | fail); obtain ⟨y_w9_0_1, c_w9_0_1, f_w9_0_1, r_w9_0_1, t_w9_0_1, p_w9_0_1⟩ := bk hb9 (w.heap.size + 1) (by first | omega | (simp; done) | (simp; omega) | fail); obtain ⟨y_w9_1_0, c_w9_1_0, f_w9_1_0, r_w9_1_0, t_w9_1_0, p_w9_1_0⟩ := bk hb9 (w1.heap.size) (by first | omega | (simp; done) | (simp; omega) | fail); obtain ⟨y_w9_2_0, c_w9_2_0, f_w9_2_0, r_w9_2_0, t_w9_2_0, p_w9_2_0⟩ := bk hb9 (w2.heap.size) (by first | omega | (simp; done) | (simp; omega) | fail)
          go_wp2_with fail
          refine (ticks_v _ _ _ _ HT2.out _).mono ?_; rintro e w5 ⟨rfl, hb5⟩; have z_w5 := hb5.size; (try simp at z_w5); obtain ⟨y_w5_0_0, c_w5_0_0, f_w5_0_0, r_w5_0_0, t_w5_0_0, p_w5_0_0⟩ := bk hb5 (w.heap.size) (by first | omega | (simp; done) | (simp; omega) | fail); obtain ⟨y_w5_0_1, c_w5_0_1, f_w5_0_1, r_w5_0_1, t_w5_0_1, p_w5_0_1⟩ := bk hb5 (w.heap.size + 1) (by first | omega | (simp; done) | (simp; omega) | fail); obtain ⟨y_w5_1_0, c_w5_1_0, f_w5_1_0, r_w5_1_0, t_w5_1_0, p_w5_1_0⟩ := bk hb5 (w1.heap.size) (by first | omega | (simp; done) | (simp; omega) | fail); obtain ⟨y_w5_2_0, c_w5_2_0, f_w5_2_0, r_w5_2_0, t_w5_2_0, p_w5_2_0⟩ := bk hb5 (w2.heap.size) (by first | omega | (simp; done) | (simp; omega) | fail)
          go_wp2_with fail
          refine (ticks_v _ _ _ _ HT1.out _).mono ?_; rintro e w6 ⟨rfl, hb6⟩; have z_w6 := hb6.size; (try simp at z_w6); obtain ⟨y_w6_0_0, c_w6_0_0, f_w6_0_0, r_w6_0_0, t_w6_0_0, p_w6_0_0⟩ := bk hb6 (w.heap.size) (by first | omega | (simp; done) | (simp; omega) | fail); obtain ⟨y_w6_0_1, c_w6_0_1, f_w6_0_1, r_w6_0_1, t_w6_0_1, p_w6_0_1⟩ := bk hb6 (w.heap.size + 1) (by first | omega | (simp; done) | (simp; omega) | fail); obtain ⟨y_w6_1_0, c_w6_1_0, f_w6_1_0, r_w6_1_0, t_w6_1_0, p_w6_1_0⟩ := bk hb6 (w1.heap.size) (by first | omega | (simp; done) | (simp; omega) | fail); obtain ⟨y_w6_2_0, c_w6_2_0, f_w6_2_0, r_w6_2_0, t_w6_2_0, p_w6_2_0⟩ := bk hb6 (w2.heap.size) (by first | omega | (simp; done) | (simp; omega) | fail)
          go_wp2_with fail
          refine (awake19_c _).mono ?_; rintro e w7 ⟨rfl, hb7⟩
          go_wp2
          go_ret
          exact ⟨rfl, (by repeat (first | with_reducible exact Below.refl _ _ | with_reducible exact Below_of_hid (by assumption) | with_reducible refine Below.drew ?_ | with_reducible refine below_drewN ?_ _ | (with_reducible refine Below_putRow ?_ ?hB _ _; case hB => (first | omega | (simp; done) | (simp; omega))) | (with_reducible refine Below.alloc ?_ ?hB _; case hB => (first | omega | (simp; done) | (simp; omega))) | (with_reducible refine Below.setCell ?_ ?hB _; case hB => (first | omega | (simp; done) | (simp; omega))) | (with_reducible refine Below.trans ?_ (Below.mono (by assumption) ?hB); case hB => (first | omega | (simp; done) | (simp; omega)))))⟩
      · have n2 : (l != 0) = true := by simp [hl]
        have HM := Lib.hid hm
        clear ho hg hm t1 t2
        go_enter Try.func9, Try.ntmps9
        go_wp2_with fail
        refine (at_v _ _ _ _ _ _ _ _ _ _ _ _ _ _ _ HO.out _).mono ?_; rintro e w1 ⟨rfl, hb1⟩; have z_w1 := hb1.size; (try simp at z_w1); obtain ⟨y_w1_0_0, c_w1_0_0, f_w1_0_0, r_w1_0_0, t_w1_0_0, p_w1_0_0⟩ := bk hb1 (w.heap.size) (by first | omega | (simp; done) | (simp; omega) | fail); obtain ⟨y_w1_0_1, c_w1_0_1, f_w1_0_1, r_w1_0_1, t_w1_0_1, p_w1_0_1⟩ := bk hb1 (w.heap.size + 1) (by first | omega | (simp; done) | (simp; omega) | fail)
        go_wp2_with fail
        refine (at_v _ _ _ _ _ _ _ _ _ _ _ _ _ _ _ HG.out _).mono ?_; rintro e w2 ⟨rfl, hb2⟩; have z_w2 := hb2.size; (try simp at z_w2); obtain ⟨y_w2_0_0, c_w2_0_0, f_w2_0_0, r_w2_0_0, t_w2_0_0, p_w2_0_0⟩ := bk hb2 (w.heap.size) (by first | omega | (simp; done) | (simp; omega) | fail); obtain ⟨y_w2_0_1, c_w2_0_1, f_w2_0_1, r_w2_0_1, t_w2_0_1, p_w2_0_1⟩ := bk hb2 (w.heap.size + 1) (by first | omega | (simp; done) | (simp; omega) | fail)
        go_wp2_with fail
        refine (ellmay_v _ _ _ _ _ _ HM.out _).mono ?_; rintro e w3 ⟨rfl, hb3⟩; have z_w3 := hb3.size; (try simp at z_w3); obtain ⟨y_w3_0_0, c_w3_0_0, f_w3_0_0, r_w3_0_0, t_w3_0_0, p_w3_0_0⟩ := bk hb3 (w.heap.size) (by first | omega | (simp; done) | (simp; omega) | fail); obtain ⟨y_w3_0_1, c_w3_0_1, f_w3_0_1, r_w3_0_1, t_w3_0_1, p_w3_0_1⟩ := bk hb3 (w.heap.size + 1) (by first | omega | (simp; done) | (simp; omega) | fail)
        go_wp2_with fail
        refine (awake19_c _).mono ?_; rintro e w4 ⟨rfl, hb4⟩
        go_wp2
        go_ret
        exact ⟨rfl, (by repeat (first | with_reducible exact Below.refl _ _ | with_reducible exact Below_of_hid (by assumption) | with_reducible refine Below.drew ?_ | with_reducible refine below_drewN ?_ _ | (with_reducible refine Below_putRow ?_ ?hB _ _; case hB => (first | omega | (simp; done) | (simp; omega))) | (with_reducible refine Below.alloc ?_ ?hB _; case hB => (first | omega | (simp; done) | (simp; omega))) | (with_reducible refine Below.setCell ?_ ?hB _; case hB => (first | omega | (simp; done) | (simp; omega))) | (with_reducible refine Below.trans ?_ (Below.mono (by assumption) ?hB); case hB => (first | omega | (simp; done) | (simp; omega)))))⟩
    · have n2 : (k != 0) = true := by simp [hk]
      have HM := Lib.hid hm
      clear ho hg hm t1 t2
      go_enter Try.func9, Try.ntmps9
      go_wp2_with fail
      refine (at_v _ _ _ _ _ _ _ _ _ _ _ _ _ _ _ HO.out _).mono ?_; rintro e w1 ⟨rfl, hb1⟩; have z_w1 := hb1.size; (try simp at z_w1); obtain ⟨y_w1_0_0, c_w1_0_0, f_w1_0_0, r_w1_0_0, t_w1_0_0, p_w1_0_0⟩ := bk hb1 (w.heap.size) (by first | omega | (simp; done) | (simp; omega) | fail); obtain ⟨y_w1_0_1, c_w1_0_1, f_w1_0_1, r_w1_0_1, t_w1_0_1, p_w1_0_1⟩ := bk hb1 (w.heap.size + 1) (by first | omega | (simp; done) | (simp; omega) | fail)
      go_wp2_with fail
      refine (at_v _ _ _ _ _ _ _ _ _ _ _ _ _ _ _ HG.out _).mono ?_; rintro e w2 ⟨rfl, hb2⟩; have z_w2 := hb2.size; (try simp at z_w2); obtain ⟨y_w2_0_0, c_w2_0_0, f_w2_0_0, r_w2_0_0, t_w2_0_0, p_w2_0_0⟩ := bk hb2 (w.heap.size) (by first | omega | (simp; done) | (simp; omega) | fail); obtain ⟨y_w2_0_1, c_w2_0_1, f_w2_0_1, r_w2_0_1, t_w2_0_1, p_w2_0_1⟩ := bk hb2 (w.heap.size + 1) (by first | omega | (simp; done) | (simp; omega) | fail)
      go_wp2_with fail
      refine (ellmay_v _ _ _ _ _ _ HM.out _).mono ?_; rintro e w3 ⟨rfl, hb3⟩; have z_w3 := hb3.size; (try simp at z_w3); obtain ⟨y_w3_0_0, c_w3_0_0, f_w3_0_0, r_w3_0_0, t_w3_0_0, p_w3_0_0⟩ := bk hb3 (w.heap.size) (by first | omega | (simp; done) | (simp; omega) | fail); obtain ⟨y_w3_0_1, c_w3_0_1, f_w3_0_1, r_w3_0_1, t_w3_0_1, p_w3_0_1⟩ := bk hb3 (w.heap.size + 1) (by first | omega | (simp; done) | (simp; omega) | fail)
      go_wp2_with fail
      refine (awake19_c _).mono ?_; rintro e w4 ⟨rfl, hb4⟩
      go_wp2
      go_ret
      exact ⟨rfl, (by repeat (first | with_reducible exact Below.refl _ _ | with_reducible exact Below_of_hid (by assumption) | with_reducible refine Below.drew ?_ | with_reducible refine below_drewN ?_ _ | (with_reducible refine Below_putRow ?_ ?hB _ _; case hB => (first | omega | (simp; done) | (simp; omega))) | (with_reducible refine Below.alloc ?_ ?hB _; case hB => (first | omega | (simp; done) | (simp; omega))) | (with_reducible refine Below.setCell ?_ ?hB _; case hB => (first | omega | (simp; done) | (simp; omega))) | (with_reducible refine Below.trans ?_ (Below.mono (by assumption) ?hB); case hB => (first | omega | (simp; done) | (simp; omega)))))⟩
end Go.Proofs.Ytjfphfnfbgmlfaa
