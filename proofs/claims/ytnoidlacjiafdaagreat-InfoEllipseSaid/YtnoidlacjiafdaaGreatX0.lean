/- The walks of the document's ellipses: within, MayPoint, MayE. -/
import Derived.Test.YtnoidlacjiafdaaGreatRE
import Derived.Test.YtnoidlacjiafdaaGreatBE
namespace Go.Proofs.YtnoidlacjiafdaaGreat
set_option linter.unusedSimpArgs false
set_option linter.unusedVariables false
open Go.RowKit

def wiB (n m : Int) : Bool := decide (-m ≤ n) && decide (n ≤ m)
set_option maxHeartbeats 400000 in
theorem rwithin_c (n m : Int) (hm : 0 ≤ m ∧ m ≤ 9223372036854775807) (w : World) :
    Calls Tryz.prog 76 #[.int .i64 n, .int .i64 m] w fun e w' => e = .returned (.bool (wiB n m)) ∧ Below w.heap.size w w' := by
  have E : wiB n m = (decide (-m ≤ n) && decide (n ≤ m)) := rfl
  by_cases h1 : -m ≤ n
  · have EV : Hid (wiB n m = decide (n ≤ m)) := by show _ = _; rw [E]; simp [h1]
    clear E
    go_enter Tryz.func76, Tryz.ntmps76
    go_wp2
    go_ret
    exact ⟨by rw [EV.out]; rfl, below_by⟩
  · have EV : Hid (wiB n m = false) := by show _ = _; rw [E]; simp [h1]
    clear E
    go_enter Tryz.func76, Tryz.ntmps76
    go_wp2
    go_ret
    exact ⟨by rw [EV.out]; rfl, below_by⟩
theorem rwithin_v (n m : Int) (k : Bool) (h : wiB n m = k) (hm : 0 ≤ m ∧ m ≤ 9223372036854775807) (w : World) :
    Calls Tryz.prog 76 #[.int .i64 n, .int .i64 m] w fun e w' => e = .returned (.bool k) ∧ Below w.heap.size w w' := by
  subst h; exact rwithin_c n m hm w
set_option maxHeartbeats 400000 in
theorem rmaypt_c (x y : Int) (w : World) :
    Calls Tryz.prog 75 #[ptV x y] w fun e w' => e = .returned (.bool (mayPt x y)) ∧ Below w.heap.size w w' := by
  have E : mayPt x y = (wiB x 4194304 && wiB y 4194304) := by unfold mayPt wiB; simp [Bool.and_assoc]
  obtain ⟨k, hk⟩ : ∃ k, wiB x 4194304 = k := ⟨_, rfl⟩
  obtain ⟨l, hl⟩ : ∃ k, wiB y 4194304 = k := ⟨_, rfl⟩
  rw [hk, hl] at E
  have HK := Lib.hid hk
  have HL := Lib.hid hl
  have HE := Lib.hid E
  clear hk hl E
  cases k with
  | true =>
    go_enter Tryz.func75, Tryz.ntmps75
    go_wp2_with fail
    refine (rwithin_v _ _ _ HK.out (by decide) _).mono ?_; rintro e w1 ⟨rfl, hb1⟩; have z_w1 := hb1.size; (try simp at z_w1); obtain ⟨y_w1_0_0, c_w1_0_0, f_w1_0_0, r_w1_0_0, t_w1_0_0, p_w1_0_0⟩ := bq hb1 (w.heap.size)
    go_wp2_with fail
    refine (rwithin_v _ _ _ HL.out (by decide) _).mono ?_; rintro e w2 ⟨rfl, hb2⟩; have z_w2 := hb2.size; (try simp at z_w2); obtain ⟨y_w2_0_0, c_w2_0_0, f_w2_0_0, r_w2_0_0, t_w2_0_0, p_w2_0_0⟩ := bq hb2 (w.heap.size)
    go_wp2_with fail
    go_ret
    exact ⟨by rw [HE.out]; rfl, below_byR⟩
  | false =>
    go_enter Tryz.func75, Tryz.ntmps75
    go_wp2_with fail
    refine (rwithin_v _ _ _ HK.out (by decide) _).mono ?_; rintro e w1 ⟨rfl, hb1⟩; have z_w1 := hb1.size; (try simp at z_w1); obtain ⟨y_w1_0_0, c_w1_0_0, f_w1_0_0, r_w1_0_0, t_w1_0_0, p_w1_0_0⟩ := bq hb1 (w.heap.size)
    go_wp2_with fail
    go_ret
    exact ⟨by rw [HE.out]; rfl, below_byR⟩
theorem rmaypt_v (x y : Int) (k : Bool) (h : mayPt x y = k) (w : World) :
    Calls Tryz.prog 75 #[ptV x y] w fun e w' => e = .returned (.bool k) ∧ Below w.heap.size w w' := by
  subst h; exact rmaypt_c x y w
theorem rmay_cases (m : Bool) (a b d : Int) : (m = false) ∨ (m = true ∧ ¬ 1 ≤ a) ∨ (m = true ∧ 1 ≤ a ∧ ¬ a ≤ 70368744177664) ∨ (m = true ∧ 1 ≤ a ∧ a ≤ 70368744177664 ∧ ¬ 1 ≤ d) ∨ (m = true ∧ 1 ≤ a ∧ a ≤ 70368744177664 ∧ 1 ≤ d ∧ ¬ d ≤ 70368744177664) ∨
    (m = true ∧ 1 ≤ a ∧ a ≤ 70368744177664 ∧ 1 ≤ d ∧ d ≤ 70368744177664 ∧ wiB b 70368744177664 = false) ∨ (m = true ∧ 1 ≤ a ∧ a ≤ 70368744177664 ∧ 1 ≤ d ∧ d ≤ 70368744177664 ∧ wiB b 70368744177664 = true) := by
  cases m <;> cases wiB b 70368744177664 <;> simp <;> omega
set_option maxRecDepth 100000 in
set_option maxHeartbeats 2000000 in
theorem rmaye_c (x y a b d : Int) (w : World) :
    Calls Tryz.prog 22 #[elC x y a b d] w fun e w' => e = .returned (.bool (El.may ⟨x, y, a, b, d⟩)) ∧ Below w.heap.size w w' := by
  obtain ⟨m, hm⟩ : ∃ m, mayPt x y = m := ⟨_, rfl⟩
  have E : Hid (El.may ⟨x, y, a, b, d⟩ = (m && (decide (1 ≤ a) && (decide (a ≤ 70368744177664) && (decide (1 ≤ d) && (decide (d ≤ 70368744177664) && (wiB b 70368744177664 && decide (0 < a * d - b * b)))))))) := by
    show _ = _; rw [← hm]; unfold El.may wiB; simp [Bool.and_assoc]
  have HM := Lib.hid hm
  clear hm
  rcases rmay_cases m a b d with h0 | ⟨h0, h1⟩ | ⟨h0, h1, h2⟩ | ⟨h0, h1, h2, h3⟩ | ⟨h0, h1, h2, h3, h4⟩ | ⟨h0, h1, h2, h3, h4, h5⟩ | ⟨h0, h1, h2, h3, h4, h5⟩
  case inr.inr.inr.inr.inr.inr =>
    subst h0
    have h6 : -70368744177664 ≤ b ∧ b ≤ 70368744177664 := by simpa [wiB] using h5
    have HW := Lib.hid h5
    have HA : Hid (I64 a ∧ I64 b ∧ I64 d) := by unfold Hid I64; omega
    obtain ⟨s, hs⟩ : ∃ s, s = a * d - b * b := ⟨_, rfl⟩
    have S : Hid (Sm 260 s) := by show Sm 260 s; rw [hs]; exact (HA.out.1.sm.mul HA.out.2.2.sm |>.sub (HA.out.2.1.sm.mul HA.out.2.1.sm)).mono (by decide)
    have HS := Lib.hid hs
    clear hs h6
    rw [← HS.out] at E
    have EV : Hid (El.may ⟨x, y, a, b, d⟩ = decide (0 < s)) := by show _ = _; rw [E.out]; simp [h1, h2, h3, h4, h5]
    have e1 := Lib.hid (WI.of_sign (S.out.lim (by decide)))
    clear h5 E
    go_enter Tryz.func22, Tryz.ntmps22
    go_wp2_with fail
    refine (rmaypt_v _ _ _ HM.out _).mono ?_; rintro e w1 ⟨rfl, hb1⟩; have z_w1 := hb1.size; (try simp at z_w1); obtain ⟨y_w1_0_0, c_w1_0_0, f_w1_0_0, r_w1_0_0, t_w1_0_0, p_w1_0_0⟩ := bq hb1 (w.heap.size); obtain ⟨y_w1_0_1, c_w1_0_1, f_w1_0_1, r_w1_0_1, t_w1_0_1, p_w1_0_1⟩ := bq hb1 (w.heap.size + 1)
    go_wp2_with fail
    refine (rwithin_v _ _ _ HW.out (by decide) _).mono ?_; rintro e w2 ⟨rfl, hb2⟩; have z_w2 := hb2.size; (try simp at z_w2); obtain ⟨y_w2_0_0, c_w2_0_0, f_w2_0_0, r_w2_0_0, t_w2_0_0, p_w2_0_0⟩ := bq hb2 (w.heap.size); obtain ⟨y_w2_0_1, c_w2_0_1, f_w2_0_1, r_w2_0_1, t_w2_0_1, p_w2_0_1⟩ := bq hb2 (w.heap.size + 1)
    go_wp2_with fail
    refine (matdet_r _ _ _ HA.out.1 HA.out.2.1 HA.out.2.2 _).mono ?_; rintro e w3 ⟨⟨v3, rfl, hv3⟩, hb3⟩; have z_w3 := hb3.size; (try simp at z_w3); obtain ⟨y_w3_0_0, c_w3_0_0, f_w3_0_0, r_w3_0_0, t_w3_0_0, p_w3_0_0⟩ := bq hb3 (w.heap.size); obtain ⟨y_w3_0_1, c_w3_0_1, f_w3_0_1, r_w3_0_1, t_w3_0_1, p_w3_0_1⟩ := bq hb3 (w.heap.size + 1)
    rw [← HS.out] at hv3
    have HV3 := Lib.hid hv3
    clear hv3
    go_wp2_with fail
    refine Calls.mono (sign_r _ _ _ HV3.out) ?_
    rw [e1.out]
    rintro e w4 ⟨rfl, hb4⟩; have z_w4 := hb4.size; (try simp at z_w4); obtain ⟨y_w4_0_0, c_w4_0_0, f_w4_0_0, r_w4_0_0, t_w4_0_0, p_w4_0_0⟩ := bq hb4 (w.heap.size); obtain ⟨y_w4_0_1, c_w4_0_1, f_w4_0_1, r_w4_0_1, t_w4_0_1, p_w4_0_1⟩ := bq hb4 (w.heap.size + 1)
    go_wp2_with fail
    go_ret
    exact ⟨by rw [EV.out]; simp, below_byR⟩
  case inr.inr.inr.inr.inr.inl =>
    subst h0
    have HW := Lib.hid h5
    have EV : Hid (El.may ⟨x, y, a, b, d⟩ = false) := by show _ = _; rw [E.out, h5]; simp
    clear h5 E
    go_enter Tryz.func22, Tryz.ntmps22
    go_wp2_with fail
    refine (rmaypt_v _ _ _ HM.out _).mono ?_; rintro e w1 ⟨rfl, hb1⟩; have z_w1 := hb1.size; (try simp at z_w1); obtain ⟨y_w1_0_0, c_w1_0_0, f_w1_0_0, r_w1_0_0, t_w1_0_0, p_w1_0_0⟩ := bq hb1 (w.heap.size); obtain ⟨y_w1_0_1, c_w1_0_1, f_w1_0_1, r_w1_0_1, t_w1_0_1, p_w1_0_1⟩ := bq hb1 (w.heap.size + 1)
    go_wp2_with fail
    refine (rwithin_v _ _ _ HW.out (by decide) _).mono ?_; rintro e w2 ⟨rfl, hb2⟩; have z_w2 := hb2.size; (try simp at z_w2); obtain ⟨y_w2_0_0, c_w2_0_0, f_w2_0_0, r_w2_0_0, t_w2_0_0, p_w2_0_0⟩ := bq hb2 (w.heap.size); obtain ⟨y_w2_0_1, c_w2_0_1, f_w2_0_1, r_w2_0_1, t_w2_0_1, p_w2_0_1⟩ := bq hb2 (w.heap.size + 1)
    go_wp2_with fail
    go_ret
    exact ⟨by rw [EV.out]; rfl, below_byR⟩
  all_goals subst h0
  all_goals have EV : Hid (El.may ⟨x, y, a, b, d⟩ = false) := by show _ = _; rw [E.out]; simp [*]
  all_goals clear E
  all_goals go_enter Tryz.func22, Tryz.ntmps22
  all_goals go_wp2_with fail
  all_goals (refine (rmaypt_v _ _ _ HM.out _).mono ?_; rintro e w1 ⟨rfl, hb1⟩; have z_w1 := hb1.size; (try simp at z_w1); obtain ⟨y_w1_0_0, c_w1_0_0, f_w1_0_0, r_w1_0_0, t_w1_0_0, p_w1_0_0⟩ := bq hb1 (w.heap.size); obtain ⟨y_w1_0_1, c_w1_0_1, f_w1_0_1, r_w1_0_1, t_w1_0_1, p_w1_0_1⟩ := bq hb1 (w.heap.size + 1))
  all_goals go_wp2_with fail
  all_goals go_ret
  all_goals exact ⟨by rw [EV.out]; rfl, below_byR⟩
theorem rmaye_v (x y a b d : Int) (k : Bool) (h : El.may ⟨x, y, a, b, d⟩ = k) (w : World) :
    Calls Tryz.prog 22 #[elC x y a b d] w fun e w' => e = .returned (.bool k) ∧ Below w.heap.size w w' := by
  subst h; exact rmaye_c x y a b d w
end Go.Proofs.YtnoidlacjiafdaaGreat
