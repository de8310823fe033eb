/- The walk of GrowAges. -/
import Derived.Test.YtgddblbpmfaahaaE8
import Derived.BigRegion
namespace Go.Proofs.Ytgddblbpmfaahaa
open Go.RowKit

theorem tmod_5000 (z : Int) : -5000 < z.tmod 5000 ∧ z.tmod 5000 < 5000 :=
  ⟨Int.lt_tmod_of_pos z (by decide), Int.tmod_lt_of_pos z (by decide)⟩
set_option maxRecDepth 100000 in
set_option maxHeartbeats 4000000 in
theorem growAges_c1 (x y a b d p q u1 u2 v1 v2 n m l V K L : Int) (hV : wrap64 ((IntKind.u64.wrap n).tmod 100) = V) (hK : wrap64 ((IntKind.u64.wrap m).tmod 50) = K) (hL : wrap64 ((IntKind.u64.wrap l).tmod 50) = L) (o : El) (k : Int)
    (ho : ageE ⟨x, y, a, b, d⟩ V K = (o, k)) (h : k ≠ 0 ∨ El.has ⟨x, y, a, b, d⟩ p q = false) (w : World) :
    Calls Try.prog 9 #[elC x y a b d, ptV p q, ptV u1 u2, ptV v1 v2, .int .i64 n, .int .i64 m, .int .i64 l] w fun e w' => e = .returned (.bool true) ∧ Below w.heap.size w w' := by
  have K0 : 0 ≤ K ∧ K < 50 := by rw [← hK]; exact rem_range m 50 (by decide) (by decide)
  have KL : Hid (K ≤ 9223372036854775807) := by show K ≤ _; omega
  obtain ⟨ox, oy, oa, ob, od⟩ := o
  have HO := Lib.hid ho
  clear ho K0
  by_cases hk : k = 0
  · subst hk
    have hp : El.has ⟨x, y, a, b, d⟩ p q = false := by rcases h with h | h; exact absurd rfl h; exact h
    have HP := Lib.hid hp
    clear h hp
    go_enter Try.func9, Try.ntmps9
    go_wp2_with fail
    refine (age_v _ _ _ _ _ _ _ _ _ _ _ _ _ KL.out HO.out _).mono ?_; rintro e w1 ⟨rfl, hb1⟩; have z_w1 := hb1.size; (try simp at z_w1); obtain ⟨y_w1_0_0, c_w1_0_0, f_w1_0_0, r_w1_0_0, t_w1_0_0, p_w1_0_0⟩ := bk hb1 (w.heap.size) (by first | omega | (simp; done) | (simp; omega) | fail); obtain ⟨y_w1_0_1, c_w1_0_1, f_w1_0_1, r_w1_0_1, t_w1_0_1, p_w1_0_1⟩ := bk hb1 (w.heap.size + 1) (by first | omega | (simp; done) | (simp; omega) | fail); obtain ⟨y_w1_0_2, c_w1_0_2, f_w1_0_2, r_w1_0_2, t_w1_0_2, p_w1_0_2⟩ := bk hb1 (w.heap.size + 1 + 1) (by first | omega | (simp; done) | (simp; omega) | fail); obtain ⟨y_w1_0_3, c_w1_0_3, f_w1_0_3, r_w1_0_3, t_w1_0_3, p_w1_0_3⟩ := bk hb1 (w.heap.size + 1 + 1 + 1) (by first | omega | (simp; done) | (simp; omega) | fail)
    go_wp2_with fail
    refine (ellin_v _ _ _ _ _ _ _ _ HP.out _).mono ?_; rintro e w2 ⟨rfl, hb2⟩; have z_w2 := hb2.size; (try simp at z_w2); obtain ⟨y_w2_0_0, c_w2_0_0, f_w2_0_0, r_w2_0_0, t_w2_0_0, p_w2_0_0⟩ := bk hb2 (w.heap.size) (by first | omega | (simp; done) | (simp; omega) | fail); obtain ⟨y_w2_0_1, c_w2_0_1, f_w2_0_1, r_w2_0_1, t_w2_0_1, p_w2_0_1⟩ := bk hb2 (w.heap.size + 1) (by first | omega | (simp; done) | (simp; omega) | fail); obtain ⟨y_w2_0_2, c_w2_0_2, f_w2_0_2, r_w2_0_2, t_w2_0_2, p_w2_0_2⟩ := bk hb2 (w.heap.size + 1 + 1) (by first | omega | (simp; done) | (simp; omega) | fail); obtain ⟨y_w2_0_3, c_w2_0_3, f_w2_0_3, r_w2_0_3, t_w2_0_3, p_w2_0_3⟩ := bk hb2 (w.heap.size + 1 + 1 + 1) (by first | omega | (simp; done) | (simp; omega) | fail); obtain ⟨y_w2_1_0, c_w2_1_0, f_w2_1_0, r_w2_1_0, t_w2_1_0, p_w2_1_0⟩ := bk hb2 (w1.heap.size) (by first | omega | (simp; done) | (simp; omega) | fail)
    go_wp2_with fail
    refine (awake5_c _).mono ?_; rintro e w3 ⟨rfl, hb3⟩
    go_wp2
    go_ret
    exact ⟨rfl, (by repeat (first | with_reducible exact Below.refl _ _ | with_reducible exact Below_of_hid (by assumption) | with_reducible refine Below.drew ?_ | with_reducible refine below_drewN ?_ _ | (with_reducible refine Below_putRow ?_ ?hB _ _; case hB => (first | omega | (simp; done) | (simp; omega))) | (with_reducible refine Below.alloc ?_ ?hB _; case hB => (first | omega | (simp; done) | (simp; omega))) | (with_reducible refine Below.setCell ?_ ?hB _; case hB => (first | omega | (simp; done) | (simp; omega))) | (with_reducible refine Below.trans ?_ (Below.mono (by assumption) ?hB); case hB => (first | omega | (simp; done) | (simp; omega)))))⟩
  · have n2 : (k != 0) = true := by simp [hk]
    clear h
    go_enter Try.func9, Try.ntmps9
    go_wp2_with fail
    refine (age_v _ _ _ _ _ _ _ _ _ _ _ _ _ KL.out HO.out _).mono ?_; rintro e w1 ⟨rfl, hb1⟩; have z_w1 := hb1.size; (try simp at z_w1); obtain ⟨y_w1_0_0, c_w1_0_0, f_w1_0_0, r_w1_0_0, t_w1_0_0, p_w1_0_0⟩ := bk hb1 (w.heap.size) (by first | omega | (simp; done) | (simp; omega) | fail); obtain ⟨y_w1_0_1, c_w1_0_1, f_w1_0_1, r_w1_0_1, t_w1_0_1, p_w1_0_1⟩ := bk hb1 (w.heap.size + 1) (by first | omega | (simp; done) | (simp; omega) | fail); obtain ⟨y_w1_0_2, c_w1_0_2, f_w1_0_2, r_w1_0_2, t_w1_0_2, p_w1_0_2⟩ := bk hb1 (w.heap.size + 1 + 1) (by first | omega | (simp; done) | (simp; omega) | fail); obtain ⟨y_w1_0_3, c_w1_0_3, f_w1_0_3, r_w1_0_3, t_w1_0_3, p_w1_0_3⟩ := bk hb1 (w.heap.size + 1 + 1 + 1) (by first | omega | (simp; done) | (simp; omega) | fail)
    go_wp2_with fail
    refine (awake5_c _).mono ?_; rintro e w3 ⟨rfl, hb3⟩
    go_wp2
    go_ret
    exact ⟨rfl, (by repeat (first | with_reducible exact Below.refl _ _ | with_reducible exact Below_of_hid (by assumption) | with_reducible refine Below.drew ?_ | with_reducible refine below_drewN ?_ _ | (with_reducible refine Below_putRow ?_ ?hB _ _; case hB => (first | omega | (simp; done) | (simp; omega))) | (with_reducible refine Below.alloc ?_ ?hB _; case hB => (first | omega | (simp; done) | (simp; omega))) | (with_reducible refine Below.setCell ?_ ?hB _; case hB => (first | omega | (simp; done) | (simp; omega))) | (with_reducible refine Below.trans ?_ (Below.mono (by assumption) ?hB); case hB => (first | omega | (simp; done) | (simp; omega)))))⟩

theorem ages_cases (k s r s' r' : Int) : (¬ k = 0) ∨ (k = 0 ∧ r < s) ∨ (k = 0 ∧ ¬ r < s ∧ r' < s') ∨ (k = 0 ∧ ¬ r < s ∧ ¬ r' < s') := by omega
theorem mul_box (a b m n : Int) (h1 : 0 ≤ a) (h2 : a ≤ m) (h3 : 0 ≤ b) (h4 : b ≤ n) : 0 ≤ a * b ∧ a * b ≤ m * n :=
  ⟨Int.mul_nonneg h1 h3, Int.mul_le_mul h2 h4 h3 (by omega)⟩

set_option maxRecDepth 100000 in
set_option maxHeartbeats 8000000 in
theorem growAges_c2 (x y a b d p q u1 u2 v1 v2 n m l V K L : Int) (hV : wrap64 ((IntKind.u64.wrap n).tmod 100) = V) (hK : wrap64 ((IntKind.u64.wrap m).tmod 50) = K) (hL : wrap64 ((IntKind.u64.wrap l).tmod 50) = L) (o : El)
    (ho : ageE ⟨x, y, a, b, d⟩ V K = (o, 0)) (hp : El.has ⟨x, y, a, b, d⟩ p q = true) (w : World) :
    Calls Try.prog 9 #[elC x y a b d, ptV p q, ptV u1 u2, ptV v1 v2, .int .i64 n, .int .i64 m, .int .i64 l] w fun e w' => e = .returned (.bool true) ∧ Below w.heap.size w w' := by
  have V0 : 0 ≤ V ∧ V < 100 := by rw [← hV]; exact rem_range n 100 (by decide) (by decide)
  have K0 : 0 ≤ K ∧ K < 50 := by rw [← hK]; exact rem_range m 50 (by decide) (by decide)
  have L0 : 0 ≤ L ∧ L < 50 := by rw [← hL]; exact rem_range l 50 (by decide) (by decide)
  have KL : Hid (K ≤ 9223372036854775807) := by show K ≤ _; omega
  have LL : Hid (L ≤ 9223372036854775807) := by show L ≤ _; omega
  obtain ⟨ox, oy, oa, ob, od⟩ := o
  obtain ⟨⟨gx, gy, ga, gb, gd⟩, k, hg⟩ : ∃ g k, ageE ⟨ox, oy, oa, ob, od⟩ V L = (g, k) := ⟨_, _, rfl⟩
  obtain ⟨-, ⟨p1, p2, p3, p4⟩, -⟩ := (El.has_iff _ _ _).1 hp
  obtain ⟨U1, hU1⟩ : ∃ A, u1.tmod 5000 = A := ⟨_, rfl⟩
  obtain ⟨U2, hU2⟩ : ∃ A, u2.tmod 5000 = A := ⟨_, rfl⟩
  obtain ⟨W1, hW1⟩ : ∃ A, v1.tmod 5000 = A := ⟨_, rfl⟩
  obtain ⟨W2, hW2⟩ : ∃ A, v2.tmod 5000 = A := ⟨_, rfl⟩
  obtain ⟨l1, l2⟩ := tmod_5000 u1
  obtain ⟨l3, l4⟩ := tmod_5000 u2
  obtain ⟨l5, l6⟩ := tmod_5000 v1
  obtain ⟨l7, l8⟩ := tmod_5000 v2
  rw [hU1] at l1 l2; rw [hU2] at l3 l4; rw [hW1] at l5 l6; rw [hW2] at l7 l8
  obtain ⟨s1, s2⟩ := sq_small U1 5000 (by omega) (by omega)
  obtain ⟨s3, s4⟩ := sq_small U2 5000 (by omega) (by omega)
  obtain ⟨s5, s6⟩ := sq_small W1 5000 (by omega) (by omega)
  obtain ⟨s7, s8⟩ := sq_small W2 5000 (by omega) (by omega)
  obtain ⟨A1, a1⟩ : ∃ A, U1 * U1 = A := ⟨_, rfl⟩
  obtain ⟨A2, a2⟩ : ∃ A, U2 * U2 = A := ⟨_, rfl⟩
  obtain ⟨A3, a3⟩ : ∃ A, W1 * W1 = A := ⟨_, rfl⟩
  obtain ⟨A4, a4⟩ : ∃ A, W2 * W2 = A := ⟨_, rfl⟩
  rw [a1] at s1 s2; rw [a2] at s3 s4; rw [a3] at s5 s6; rw [a4] at s7 s8
  obtain ⟨m1, m2⟩ := mul_box V K 100 50 V0.1 (by omega) K0.1 (by omega)
  obtain ⟨m3, m4⟩ := mul_box V L 100 50 V0.1 (by omega) L0.1 (by omega)
  obtain ⟨M1, b1⟩ : ∃ A, V * K = A := ⟨_, rfl⟩
  obtain ⟨M2, b2⟩ : ∃ A, V * L = A := ⟨_, rfl⟩
  rw [b1] at m1 m2; rw [b2] at m3 m4
  obtain ⟨n1, n2⟩ := mul_box M1 V (100 * 50) 100 m1 m2 V0.1 (by omega)
  obtain ⟨n3, n4⟩ := mul_box M2 V (100 * 50) 100 m3 m4 V0.1 (by omega)
  obtain ⟨N1, b3⟩ : ∃ A, M1 * V = A := ⟨_, rfl⟩
  obtain ⟨N2, b4⟩ : ∃ A, M2 * V = A := ⟨_, rfl⟩
  rw [b3] at n1 n2; rw [b4] at n3 n4
  obtain ⟨r1, r2⟩ := mul_box N1 K (100 * 50 * 100) 50 n1 n2 K0.1 (by omega)
  obtain ⟨r3, r4⟩ := mul_box N2 L (100 * 50 * 100) 50 n3 n4 L0.1 (by omega)
  obtain ⟨R1, b5⟩ : ∃ A, N1 * K = A := ⟨_, rfl⟩
  obtain ⟨R2, b6⟩ : ∃ A, N2 * L = A := ⟨_, rfl⟩
  rw [b5] at r1 r2; rw [b6] at r3 r4
  have q1 : R1 = M1 * M1 := by rw [← b5, ← b3, ← b1]; grind
  have q2 : R2 = M2 * M2 := by rw [← b6, ← b4, ← b2]; grind
  have HO := Lib.hid ho
  have HP := Lib.hid hp
  have HG := Lib.hid hg
  have HB : Hid (k = 0 → ¬ R1 < A1 + A2 → ¬ R2 < A3 + A4 → El.has ⟨gx, gy, ga, gb, gd⟩ (p + U1 + W1) (q + U2 + W2) = true) := by
    intro hk h1 h2
    subst hk
    have g1 := (ageE_ok ho).1
    have g2 := (ageE_ok hg).1
    rw [b1] at g1; rw [b2] at g2
    have t1 := grow_holds g1 p q U1 U2 hp (by rw [a1, a2]; omega)
    exact grow_holds g2 _ _ W1 W2 t1 (by rw [a3, a4]; omega)
  have s2' : A1 ≤ 25000000 := by omega
  have s4' : A2 ≤ 25000000 := by omega
  have s6' : A3 ≤ 25000000 := by omega
  have s8' : A4 ≤ 25000000 := by omega
  have m2' : M1 ≤ 5000 := by omega
  have m4' : M2 ≤ 5000 := by omega
  have n2' : N1 ≤ 500000 := by omega
  have n4' : N2 ≤ 500000 := by omega
  have r2' : R1 ≤ 25000000 := by omega
  have r4' : R2 ≤ 25000000 := by omega
  obtain ⟨S1, c1⟩ : ∃ A, A1 + A2 = A := ⟨_, rfl⟩
  obtain ⟨S2, c2⟩ : ∃ A, A3 + A4 = A := ⟨_, rfl⟩
  rw [c1, c2] at HB
  have t1 : 0 ≤ S1 ∧ S1 ≤ 50000000 := by omega
  have t2 : 0 ≤ S2 ∧ S2 ≤ 50000000 := by omega
  obtain ⟨t3, t4⟩ := t1
  obtain ⟨t5, t6⟩ := t2
  clear ho hp hg q1 q2 V0 K0 L0 s2 s4 s6 s8 m2 m4 n2 n4 r2 r4
  go_enter Try.func9, Try.ntmps9
  go_wp2_with fail
  refine (age_v _ _ _ _ _ _ _ _ _ _ _ _ _ KL.out HO.out _).mono ?_; rintro e w1 ⟨rfl, hb1⟩; have z_w1 := hb1.size; (try simp at z_w1); obtain ⟨y_w1_0_0, c_w1_0_0, f_w1_0_0, r_w1_0_0, t_w1_0_0, p_w1_0_0⟩ := bk hb1 (w.heap.size) (by first | omega | (simp; done) | (simp; omega) | fail); obtain ⟨y_w1_0_1, c_w1_0_1, f_w1_0_1, r_w1_0_1, t_w1_0_1, p_w1_0_1⟩ := bk hb1 (w.heap.size + 1) (by first | omega | (simp; done) | (simp; omega) | fail); obtain ⟨y_w1_0_2, c_w1_0_2, f_w1_0_2, r_w1_0_2, t_w1_0_2, p_w1_0_2⟩ := bk hb1 (w.heap.size + 1 + 1) (by first | omega | (simp; done) | (simp; omega) | fail); obtain ⟨y_w1_0_3, c_w1_0_3, f_w1_0_3, r_w1_0_3, t_w1_0_3, p_w1_0_3⟩ := bk hb1 (w.heap.size + 1 + 1 + 1) (by first | omega | (simp; done) | (simp; omega) | fail)
  go_wp2_with fail
  refine (ellin_v _ _ _ _ _ _ _ _ HP.out _).mono ?_; rintro e w2 ⟨rfl, hb2⟩; have z_w2 := hb2.size; (try simp at z_w2); obtain ⟨y_w2_0_0, c_w2_0_0, f_w2_0_0, r_w2_0_0, t_w2_0_0, p_w2_0_0⟩ := bk hb2 (w.heap.size) (by first | omega | (simp; done) | (simp; omega) | fail); obtain ⟨y_w2_0_1, c_w2_0_1, f_w2_0_1, r_w2_0_1, t_w2_0_1, p_w2_0_1⟩ := bk hb2 (w.heap.size + 1) (by first | omega | (simp; done) | (simp; omega) | fail); obtain ⟨y_w2_0_2, c_w2_0_2, f_w2_0_2, r_w2_0_2, t_w2_0_2, p_w2_0_2⟩ := bk hb2 (w.heap.size + 1 + 1) (by first | omega | (simp; done) | (simp; omega) | fail); obtain ⟨y_w2_0_3, c_w2_0_3, f_w2_0_3, r_w2_0_3, t_w2_0_3, p_w2_0_3⟩ := bk hb2 (w.heap.size + 1 + 1 + 1) (by first | omega | (simp; done) | (simp; omega) | fail); obtain ⟨y_w2_1_0, c_w2_1_0, f_w2_1_0, r_w2_1_0, t_w2_1_0, p_w2_1_0⟩ := bk hb2 (w1.heap.size) (by first | omega | (simp; done) | (simp; omega) | fail)
  go_wp2_with fail
  refine (age_v _ _ _ _ _ _ _ _ _ _ _ _ _ LL.out HG.out _).mono ?_; rintro e w3 ⟨rfl, hb3⟩; have z_w3 := hb3.size; (try simp at z_w3); obtain ⟨y_w3_0_0, c_w3_0_0, f_w3_0_0, r_w3_0_0, t_w3_0_0, p_w3_0_0⟩ := bk hb3 (w.heap.size) (by first | omega | (simp; done) | (simp; omega) | fail); obtain ⟨y_w3_0_1, c_w3_0_1, f_w3_0_1, r_w3_0_1, t_w3_0_1, p_w3_0_1⟩ := bk hb3 (w.heap.size + 1) (by first | omega | (simp; done) | (simp; omega) | fail); obtain ⟨y_w3_0_2, c_w3_0_2, f_w3_0_2, r_w3_0_2, t_w3_0_2, p_w3_0_2⟩ := bk hb3 (w.heap.size + 1 + 1) (by first | omega | (simp; done) | (simp; omega) | fail); obtain ⟨y_w3_0_3, c_w3_0_3, f_w3_0_3, r_w3_0_3, t_w3_0_3, p_w3_0_3⟩ := bk hb3 (w.heap.size + 1 + 1 + 1) (by first | omega | (simp; done) | (simp; omega) | fail)
  go_wp2_with fail
  go_region
  rcases ages_cases k S1 R1 S2 R2 with h0 | ⟨h0, h1⟩ | ⟨h0, h1, h2⟩ | ⟨h0, h1, h2⟩
  case inl =>
    have n2 : (k != 0) = true := by simp [h0]
    go_wp2_with fail
    refine (awake5_c _).mono ?_; rintro e w6 ⟨rfl, hb6⟩
    go_wp2
    go_ret
    exact ⟨rfl, (by repeat (first | with_reducible exact Below.refl _ _ | with_reducible exact Below_of_hid (by assumption) | with_reducible refine Below.drew ?_ | with_reducible refine below_drewN ?_ _ | (with_reducible refine Below_putRow ?_ ?hB _ _; case hB => (first | omega | (simp; done) | (simp; omega))) | (with_reducible refine Below.alloc ?_ ?hB _; case hB => (first | omega | (simp; done) | (simp; omega))) | (with_reducible refine Below.setCell ?_ ?hB _; case hB => (first | omega | (simp; done) | (simp; omega))) | (with_reducible refine Below.trans ?_ (Below.mono (by assumption) ?hB); case hB => (first | omega | (simp; done) | (simp; omega)))))⟩
  case inr.inr.inr =>
    have HB2 := Lib.hid (HB.out h0 (by omega) (by omega))
    subst h0
    go_wp2_with fail
    refine (ellin_v _ _ _ _ _ _ _ _ HB2.out _).mono ?_; rintro e w5 ⟨rfl, hb5⟩; have s5 := hb5.size; (try simp at s5)
    go_wp2_with fail
    refine (awake5_c _).mono ?_; rintro e w6 ⟨rfl, hb6⟩
    go_wp2
    go_ret
    exact ⟨rfl, (by repeat (first | with_reducible exact Below.refl _ _ | with_reducible exact Below_of_hid (by assumption) | with_reducible refine Below.drew ?_ | with_reducible refine below_drewN ?_ _ | (with_reducible refine Below_putRow ?_ ?hB _ _; case hB => (first | omega | (simp; done) | (simp; omega))) | (with_reducible refine Below.alloc ?_ ?hB _; case hB => (first | omega | (simp; done) | (simp; omega))) | (with_reducible refine Below.setCell ?_ ?hB _; case hB => (first | omega | (simp; done) | (simp; omega))) | (with_reducible refine Below.trans ?_ (Below.mono (by assumption) ?hB); case hB => (first | omega | (simp; done) | (simp; omega)))))⟩
  all_goals subst h0
  all_goals go_wp2_with fail
  all_goals (refine (awake5_c _).mono ?_; rintro e w6 ⟨rfl, hb6⟩)
  all_goals go_wp2
  all_goals go_ret
  all_goals exact ⟨rfl, (by repeat (first | with_reducible exact Below.refl _ _ | with_reducible exact Below_of_hid (by assumption) | with_reducible refine Below.drew ?_ | with_reducible refine below_drewN ?_ _ | (with_reducible refine Below_putRow ?_ ?hB _ _; case hB => (first | omega | (simp; done) | (simp; omega))) | (with_reducible refine Below.alloc ?_ ?hB _; case hB => (first | omega | (simp; done) | (simp; omega))) | (with_reducible refine Below.setCell ?_ ?hB _; case hB => (first | omega | (simp; done) | (simp; omega))) | (with_reducible refine Below.trans ?_ (Below.mono (by assumption) ?hB); case hB => (first | omega | (simp; done) | (simp; omega)))))⟩

theorem growAges_c (x y a b d p q u1 u2 v1 v2 n m l : Int) (w : World) :
    Calls Try.prog 9 #[elC x y a b d, ptV p q, ptV u1 u2, ptV v1 v2, .int .i64 n, .int .i64 m, .int .i64 l] w fun e w' => e = .returned (.bool true) ∧ Below w.heap.size w w' := by
  obtain ⟨V, hV⟩ : ∃ V, wrap64 ((IntKind.u64.wrap n).tmod 100) = V := ⟨_, rfl⟩
  obtain ⟨K, hK⟩ : ∃ V, wrap64 ((IntKind.u64.wrap m).tmod 50) = V := ⟨_, rfl⟩
  obtain ⟨L, hL⟩ : ∃ V, wrap64 ((IntKind.u64.wrap l).tmod 50) = V := ⟨_, rfl⟩
  obtain ⟨o, k, ho⟩ : ∃ o k, ageE ⟨x, y, a, b, d⟩ V K = (o, k) := ⟨_, _, rfl⟩
  by_cases hk : k = 0
  · subst hk
    cases hp : El.has ⟨x, y, a, b, d⟩ p q with
    | true => exact growAges_c2 x y a b d p q u1 u2 v1 v2 n m l V K L hV hK hL o ho hp w
    | false => exact growAges_c1 x y a b d p q u1 u2 v1 v2 n m l V K L hV hK hL o 0 ho (.inr hp) w
  · exact growAges_c1 x y a b d p q u1 u2 v1 v2 n m l V K L hV hK hL o k ho (.inl hk) w
end Go.Proofs.Ytgddblbpmfaahaa
