/- The walks of package root: Up, MulDiv, MulDivUp, fit, Floor, Ceil, Near. -/
import Derived.Test.YtfohihjeemmedaaT1
namespace Go.Proofs.Ytfohihjeemmedaa
open Go.RowKit

theorem one_1 : Hid (-9223372036854775808 ≤ (1 : Int) ∧ (1 : Int) ≤ 9223372036854775807) := ⟨by decide, by decide⟩
set_option maxRecDepth 100000 in
set_option maxHeartbeats 1000000 in
theorem wup_c (x : WI) (w : World) :
    Calls Try.prog 57 #[.agg x.cells] w fun r w' => r = .returned (.tuple #[.int .i64 (wupV x).1, .int .i64 (wupV x).2]) ∧ Below w.heap.size w w' := by
  have E : Hid (wupV x = narrowV (if x.sqrt.2 = 0 ∧ ((x.sqrt.1.mul x.sqrt.1).cmp x).1 < 0 then x.sqrt.1.add (WI.of 1) else x.sqrt.1) x.sqrt.2) := rfl
  obtain ⟨r, hr⟩ : ∃ r, r = x.sqrt.1 := ⟨_, rfl⟩
  obtain ⟨e0, he0⟩ : ∃ e0, e0 = x.sqrt.2 := ⟨_, rfl⟩
  rw [← hr, ← he0] at E
  have HR := Lib.hid hr
  have HE := Lib.hid he0
  clear hr he0
  by_cases h : e0 = 0 ∧ ((r.mul r).cmp x).1 < 0
  · rw [if_pos h] at E
    obtain ⟨h1, h2⟩ := h
    have H1 := Lib.hid h1
    have h3 : (e0 == 0) = true := by simp [h1]
    have h4 : decide (((r.mul r).cmp x).1 < 0) = true := decide_eq_true h2
    clear h1
    go_enter Try.func57, Try.ntmps57
    go_wp2_with fail
    refine (sqrt_I _ _).mono ?_; rintro e w1 ⟨rfl, hb1⟩; rw [← HR.out, ← HE.out]; have z_w1 := hb1.size; (try simp at z_w1); obtain ⟨y_w1_0_0, c_w1_0_0, f_w1_0_0, r_w1_0_0, t_w1_0_0, p_w1_0_0⟩ := bk hb1 (w.heap.size) (by first | omega | (simp; done) | (simp; omega) | fail)
    go_wp2_with fail
    go_region_held3 (fun w' => w'.row? w.heap.size 0 18 = some x.cells ∧ w'.row? w1.heap.size 0 18 = some r.cells) (go_simp)
      (first
        | (go_at_call 67; refine (mul_I _ _ _).mono ?_; rintro e w2 ⟨rfl, hb2⟩; have z_w2 := hb2.size; (try simp at z_w2); obtain ⟨y_w2_0_0, c_w2_0_0, f_w2_0_0, r_w2_0_0, t_w2_0_0, p_w2_0_0⟩ := bk hb2 (w.heap.size) (by first | omega | (simp; done) | (simp; omega) | fail); obtain ⟨y_w2_1_0, c_w2_1_0, f_w2_1_0, r_w2_1_0, t_w2_1_0, p_w2_1_0⟩ := bk hb2 (w1.heap.size) (by first | omega | (simp; done) | (simp; omega) | fail))
        | (go_at_call 74; refine (cmp_I _ _ _).mono ?_; rintro e w3 ⟨rfl, hb3⟩; have z_w3 := hb3.size; (try simp at z_w3); obtain ⟨y_w3_0_0, c_w3_0_0, f_w3_0_0, r_w3_0_0, t_w3_0_0, p_w3_0_0⟩ := bk hb3 (w.heap.size) (by first | omega | (simp; done) | (simp; omega) | fail); obtain ⟨y_w3_1_0, c_w3_1_0, f_w3_1_0, r_w3_1_0, t_w3_1_0, p_w3_1_0⟩ := bk hb3 (w1.heap.size) (by first | omega | (simp; done) | (simp; omega) | fail)))
    all_goals have ne1 : ¬ (w.heap.size = w1.heap.size) := by omega
    all_goals go_wp2_with fail
    all_goals go_region_with
      (first
        | (go_at_call 51; refine (of_c 1 one_1.out.1 one_1.out.2 _).mono ?_; rintro e w4 ⟨rfl, hb4⟩; have z_w4 := hb4.size; (try simp at z_w4); obtain ⟨y_w4_0_0, c_w4_0_0, f_w4_0_0, r_w4_0_0, t_w4_0_0, p_w4_0_0⟩ := bk hb4 (w.heap.size) (by first | omega | (simp; done) | (simp; omega) | fail); obtain ⟨y_w4_1_0, c_w4_1_0, f_w4_1_0, r_w4_1_0, t_w4_1_0, p_w4_1_0⟩ := bk hb4 (w1.heap.size) (by first | omega | (simp; done) | (simp; omega) | fail))
        | (go_at_call 68; refine (add_I _ _ _).mono ?_; rintro e w5 ⟨rfl, hb5⟩; have z_w5 := hb5.size; (try simp at z_w5); obtain ⟨y_w5_0_0, c_w5_0_0, f_w5_0_0, r_w5_0_0, t_w5_0_0, p_w5_0_0⟩ := bk hb5 (w.heap.size) (by first | omega | (simp; done) | (simp; omega) | fail); obtain ⟨y_w5_1_0, c_w5_1_0, f_w5_1_0, r_w5_1_0, t_w5_1_0, p_w5_1_0⟩ := bk hb5 (w1.heap.size) (by first | omega | (simp; done) | (simp; omega) | fail)))
    all_goals go_wp2_with fail
    all_goals (refine (narrow_c _ _ _).mono ?_; rintro e w6 ⟨rfl, hb6⟩)
    all_goals go_wp2_with fail
    all_goals go_ret2
    all_goals exact ⟨by rw [E.out]; rfl, (by repeat (first | exact Below.refl _ _ | exact Below_of_hid (by assumption) | refine Below.drew ?_ | refine below_drewN ?_ _ | refine Below_putRow ?_ (by first | omega | (simp; done) | (simp; omega) | fail) _ _ | refine Below.alloc ?_ (by first | omega | (simp; done) | (simp; omega) | fail) _ | refine Below.setCell ?_ (by first | omega | (simp; done) | (simp; omega) | fail) _ | refine Below.trans ?_ (Below.mono (by assumption) (by first | omega | (simp; done) | (simp; omega) | fail))))⟩
  · rw [if_neg h] at E
    have HN := Lib.hid h
    by_cases h1 : e0 = 0
    · have h2 : ¬ ((r.mul r).cmp x).1 < 0 := fun h2 => h ⟨h1, h2⟩
      have h4 : decide (((r.mul r).cmp x).1 < 0) = false := decide_eq_false h2
      have h3 : (e0 == 0) = true := by simp [h1]
      clear h h1
      go_enter Try.func57, Try.ntmps57
      go_wp2_with fail
      refine (sqrt_I _ _).mono ?_; rintro e w1 ⟨rfl, hb1⟩; rw [← HR.out, ← HE.out]; have z_w1 := hb1.size; (try simp at z_w1); obtain ⟨y_w1_0_0, c_w1_0_0, f_w1_0_0, r_w1_0_0, t_w1_0_0, p_w1_0_0⟩ := bk hb1 (w.heap.size) (by first | omega | (simp; done) | (simp; omega) | fail)
      go_wp2_with fail
      go_region_held3 (fun w' => w'.row? w.heap.size 0 18 = some x.cells ∧ w'.row? w1.heap.size 0 18 = some r.cells) (go_simp)
        (first
          | (go_at_call 67; refine (mul_I _ _ _).mono ?_; rintro e w2 ⟨rfl, hb2⟩; have z_w2 := hb2.size; (try simp at z_w2); obtain ⟨y_w2_0_0, c_w2_0_0, f_w2_0_0, r_w2_0_0, t_w2_0_0, p_w2_0_0⟩ := bk hb2 (w.heap.size) (by first | omega | (simp; done) | (simp; omega) | fail); obtain ⟨y_w2_1_0, c_w2_1_0, f_w2_1_0, r_w2_1_0, t_w2_1_0, p_w2_1_0⟩ := bk hb2 (w1.heap.size) (by first | omega | (simp; done) | (simp; omega) | fail))
          | (go_at_call 74; refine (cmp_I _ _ _).mono ?_; rintro e w3 ⟨rfl, hb3⟩; have z_w3 := hb3.size; (try simp at z_w3); obtain ⟨y_w3_0_0, c_w3_0_0, f_w3_0_0, r_w3_0_0, t_w3_0_0, p_w3_0_0⟩ := bk hb3 (w.heap.size) (by first | omega | (simp; done) | (simp; omega) | fail); obtain ⟨y_w3_1_0, c_w3_1_0, f_w3_1_0, r_w3_1_0, t_w3_1_0, p_w3_1_0⟩ := bk hb3 (w1.heap.size) (by first | omega | (simp; done) | (simp; omega) | fail)))
      all_goals go_wp2_with fail
      all_goals (refine (narrow_c _ _ _).mono ?_; rintro e w6 ⟨rfl, hb6⟩)
      all_goals go_wp2_with fail
      all_goals go_ret2
      all_goals exact ⟨by rw [E.out]; rfl, (by repeat (first | exact Below.refl _ _ | exact Below_of_hid (by assumption) | refine Below.drew ?_ | refine below_drewN ?_ _ | refine Below_putRow ?_ (by first | omega | (simp; done) | (simp; omega) | fail) _ _ | refine Below.alloc ?_ (by first | omega | (simp; done) | (simp; omega) | fail) _ | refine Below.setCell ?_ (by first | omega | (simp; done) | (simp; omega) | fail) _ | refine Below.trans ?_ (Below.mono (by assumption) (by first | omega | (simp; done) | (simp; omega) | fail))))⟩
    · have h3 : (e0 == 0) = false := by simp [h1]
      have h3' : ¬ e0 = 0 := h1
      clear h h1
      go_enter Try.func57, Try.ntmps57
      go_wp2_with fail
      refine (sqrt_I _ _).mono ?_; rintro e w1 ⟨rfl, hb1⟩; rw [← HR.out, ← HE.out]; have z_w1 := hb1.size; (try simp at z_w1); obtain ⟨y_w1_0_0, c_w1_0_0, f_w1_0_0, r_w1_0_0, t_w1_0_0, p_w1_0_0⟩ := bk hb1 (w.heap.size) (by first | omega | (simp; done) | (simp; omega) | fail)
      go_wp2_with fail
      go_region_held3 (fun w' => w'.row? w.heap.size 0 18 = some x.cells ∧ w'.row? w1.heap.size 0 18 = some r.cells) (go_simp)
        (first
          | (go_at_call 67; refine (mul_I _ _ _).mono ?_; rintro e w2 ⟨rfl, hb2⟩; have z_w2 := hb2.size; (try simp at z_w2); obtain ⟨y_w2_0_0, c_w2_0_0, f_w2_0_0, r_w2_0_0, t_w2_0_0, p_w2_0_0⟩ := bk hb2 (w.heap.size) (by first | omega | (simp; done) | (simp; omega) | fail); obtain ⟨y_w2_1_0, c_w2_1_0, f_w2_1_0, r_w2_1_0, t_w2_1_0, p_w2_1_0⟩ := bk hb2 (w1.heap.size) (by first | omega | (simp; done) | (simp; omega) | fail))
          | (go_at_call 74; refine (cmp_I _ _ _).mono ?_; rintro e w3 ⟨rfl, hb3⟩; have z_w3 := hb3.size; (try simp at z_w3); obtain ⟨y_w3_0_0, c_w3_0_0, f_w3_0_0, r_w3_0_0, t_w3_0_0, p_w3_0_0⟩ := bk hb3 (w.heap.size) (by first | omega | (simp; done) | (simp; omega) | fail); obtain ⟨y_w3_1_0, c_w3_1_0, f_w3_1_0, r_w3_1_0, t_w3_1_0, p_w3_1_0⟩ := bk hb3 (w1.heap.size) (by first | omega | (simp; done) | (simp; omega) | fail)))
      all_goals go_wp2_with fail
      all_goals (refine (narrow_c _ _ _).mono ?_; rintro e w6 ⟨rfl, hb6⟩)
      all_goals go_wp2_with fail
      all_goals go_ret2
      all_goals exact ⟨by rw [E.out]; rfl, (by repeat (first | exact Below.refl _ _ | exact Below_of_hid (by assumption) | refine Below.drew ?_ | refine below_drewN ?_ _ | refine Below_putRow ?_ (by first | omega | (simp; done) | (simp; omega) | fail) _ _ | refine Below.alloc ?_ (by first | omega | (simp; done) | (simp; omega) | fail) _ | refine Below.setCell ?_ (by first | omega | (simp; done) | (simp; omega) | fail) _ | refine Below.trans ?_ (Below.mono (by assumption) (by first | omega | (simp; done) | (simp; omega) | fail))))⟩

set_option maxHeartbeats 1000000 in
theorem rup_c (n : Int) (h1 : -9223372036854775808 ≤ n) (h2 : n ≤ 9223372036854775807) (w : World) :
    Calls Try.prog 41 #[.int .i64 n] w fun r w' => r = .returned (.int .i64 (wupV (WI.of (max 0 n))).1) ∧ Below w.heap.size w w' := by
  obtain ⟨m, hm⟩ : ∃ m, m = max 0 n := ⟨_, rfl⟩
  have HB : Hid (-9223372036854775808 ≤ m ∧ m ≤ 9223372036854775807) := ⟨by omega, by omega⟩
  have e1 : max 0 n = m := hm.symm
  rw [e1]
  clear hm h1 h2
  go_enter Try.func41, Try.ntmps41
  go_wp2_with fail
  refine (of_c m HB.out.1 HB.out.2 _).mono ?_; rintro e w1 ⟨rfl, hb1⟩
  go_wp2_with fail
  refine (wup_c _ _).mono ?_; rintro e w2 ⟨rfl, hb2⟩
  have hs := hb1.size
  go_wp2_with fail
  go_ret
  exact ⟨rfl, (by repeat (first | exact Below.refl _ _ | exact Below_of_hid (by assumption) | refine Below.drew ?_ | refine below_drewN ?_ _ | refine Below_putRow ?_ (by first | omega | (simp; done) | (simp; omega) | fail) _ _ | refine Below.alloc ?_ (by first | omega | (simp; done) | (simp; omega) | fail) _ | refine Below.setCell ?_ (by first | omega | (simp; done) | (simp; omega) | fail) _ | refine Below.trans ?_ (Below.mono (by assumption) (by first | omega | (simp; done) | (simp; omega) | fail))))⟩

set_option maxHeartbeats 1000000 in
theorem mulDiv_c (a b c : Int) (ha : -9223372036854775808 ≤ a ∧ a ≤ 9223372036854775807) (hb : -9223372036854775808 ≤ b ∧ b ≤ 9223372036854775807) (hc : -9223372036854775808 ≤ c ∧ c ≤ 9223372036854775807) (w : World) :
    Calls Try.prog 72 #[.int .i64 a, .int .i64 b, .int .i64 c] w fun r w' => r = .returned (.tuple #[.int .i64 (mulDivV a b c).1, .int .i64 (mulDivV a b c).2]) ∧ Below w.heap.size w w' := by
  have E : Hid (mulDivV a b c = narrowV (((WI.of a).mul (WI.of b)).div (WI.of c)).1 (((WI.of a).mul (WI.of b)).div (WI.of c)).2) := rfl
  have HA := Lib.hid ha
  have HB := Lib.hid hb
  have HC := Lib.hid hc
  clear ha hb hc
  go_enter Try.func72, Try.ntmps72
  go_wp2_with fail
  refine (of_c a HA.out.1 HA.out.2 _).mono ?_; rintro e w1 ⟨rfl, hb1⟩
  have s1 := hb1.size
  go_wp2_with fail
  refine (of_c b HB.out.1 HB.out.2 _).mono ?_; rintro e w2 ⟨rfl, hb2⟩
  have s2 := hb2.size
  go_wp2_with fail
  refine (mul_I _ _ _).mono ?_; rintro e w3 ⟨rfl, hb3⟩
  have s3 := hb3.size
  go_wp2_with fail
  refine (of_c c HC.out.1 HC.out.2 _).mono ?_; rintro e w4 ⟨rfl, hb4⟩
  have s4 := hb4.size
  go_wp2_with fail
  refine (div_I _ _ _).mono ?_; rintro e w5 ⟨rfl, hb5⟩
  have s5 := hb5.size
  go_wp2_with fail
  refine (narrow_c _ _ _).mono ?_; rintro e w6 ⟨rfl, hb6⟩
  go_wp2_with fail
  go_ret2
  exact ⟨by rw [E.out]; rfl, (by repeat (first | exact Below.refl _ _ | exact Below_of_hid (by assumption) | refine Below.drew ?_ | refine below_drewN ?_ _ | refine Below_putRow ?_ (by first | omega | (simp; done) | (simp; omega) | fail) _ _ | refine Below.alloc ?_ (by first | omega | (simp; done) | (simp; omega) | fail) _ | refine Below.setCell ?_ (by first | omega | (simp; done) | (simp; omega) | fail) _ | refine Below.trans ?_ (Below.mono (by assumption) (by first | omega | (simp; done) | (simp; omega) | fail))))⟩

set_option maxHeartbeats 1000000 in
theorem mulDivUp_c (a b c : Int) (ha : -9223372036854775808 ≤ a ∧ a ≤ 9223372036854775807) (hb : -9223372036854775808 ≤ b ∧ b ≤ 9223372036854775807) (hc : -9223372036854775808 ≤ c ∧ c ≤ 9223372036854775807) (w : World) :
    Calls Try.prog 71 #[.int .i64 a, .int .i64 b, .int .i64 c] w fun r w' => r = .returned (.tuple #[.int .i64 (mulDivUpV a b c).1, .int .i64 (mulDivUpV a b c).2]) ∧ Below w.heap.size w w' := by
  have E : Hid (mulDivUpV a b c = narrowV (aboveV ((WI.of a).mul (WI.of b)) (WI.of c)).1 (aboveV ((WI.of a).mul (WI.of b)) (WI.of c)).2) := rfl
  have HA := Lib.hid ha
  have HB := Lib.hid hb
  have HC := Lib.hid hc
  clear ha hb hc
  go_enter Try.func71, Try.ntmps71
  go_wp2_with fail
  refine (of_c a HA.out.1 HA.out.2 _).mono ?_; rintro e w1 ⟨rfl, hb1⟩
  have s1 := hb1.size
  go_wp2_with fail
  refine (of_c b HB.out.1 HB.out.2 _).mono ?_; rintro e w2 ⟨rfl, hb2⟩
  have s2 := hb2.size
  go_wp2_with fail
  refine (mul_I _ _ _).mono ?_; rintro e w3 ⟨rfl, hb3⟩
  have s3 := hb3.size
  go_wp2_with fail
  refine (of_c c HC.out.1 HC.out.2 _).mono ?_; rintro e w4 ⟨rfl, hb4⟩
  have s4 := hb4.size
  go_wp2_with fail
  refine (above_c _ _ _).mono ?_; rintro e w5 ⟨rfl, hb5⟩
  have s5 := hb5.size
  go_wp2_with fail
  refine (narrow_c _ _ _).mono ?_; rintro e w6 ⟨rfl, hb6⟩
  go_wp2_with fail
  go_ret2
  exact ⟨by rw [E.out]; rfl, (by repeat (first | exact Below.refl _ _ | exact Below_of_hid (by assumption) | refine Below.drew ?_ | refine below_drewN ?_ _ | refine Below_putRow ?_ (by first | omega | (simp; done) | (simp; omega) | fail) _ _ | refine Below.alloc ?_ (by first | omega | (simp; done) | (simp; omega) | fail) _ | refine Below.setCell ?_ (by first | omega | (simp; done) | (simp; omega) | fail) _ | refine Below.trans ?_ (Below.mono (by assumption) (by first | omega | (simp; done) | (simp; omega) | fail))))⟩
end Go.Proofs.Ytfohihjeemmedaa
