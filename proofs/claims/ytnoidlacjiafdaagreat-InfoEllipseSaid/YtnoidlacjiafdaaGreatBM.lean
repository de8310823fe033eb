/- The walks of package mat: in, May, Add, Adj. The walks of package mat: Add, Adj. The walks of package mat: times, det, psd, Det, Quad, Psd, Least, Holds. The walk of package mat's Quad. The walks of package mat: Least, Holds. The plain laws of package mat: orders of matrices. No program in sight. The plain law of positive matrices: the square form. No program in sight. The plain laws of what a matrix holds. No program in sight. The plain law of sums and growth of ellipses. No program in sight. -/
import Derived.Test.YtnoidlacjiafdaaGreatBW
import Derived.Test.YtnoidlacjiafdaaGreatBA
import Derived.Deep.Cut
import Derived.Test.YtnoidlacjiafdaaGreatBN
import Derived.Test.YtnoidlacjiafdaaGreatBY
namespace Go.Proofs.YtnoidlacjiafdaaGreat
set_option linter.unusedSimpArgs false
set_option linter.unusedVariables false
open Go.RowKit

/-- A number that may be in a matrix. -/
def inB (n : Int) : Bool := decide (-2305843009213693952 ≤ n) && decide (n ≤ 2305843009213693952)
/-- A matrix that may be. -/
def mayB (a b d : Int) : Bool := inB a && inB b && inB d
theorem inB_iff (n : Int) : inB n = true ↔ -2305843009213693952 ≤ n ∧ n ≤ 2305843009213693952 := by unfold inB; simp
theorem mayB_iff (a b d : Int) : mayB a b d = true ↔ (-2305843009213693952 ≤ a ∧ a ≤ 2305843009213693952) ∧ (-2305843009213693952 ≤ b ∧ b ≤ 2305843009213693952) ∧ (-2305843009213693952 ≤ d ∧ d ≤ 2305843009213693952) := by
  unfold mayB; simp [inB_iff, and_assoc]
/-- A matrix, a point, as values. -/
abbrev symV (a b d : Int) : Value := .agg #[.int .i64 a, .int .i64 b, .int .i64 d]
abbrev ptV (x y : Int) : Value := .agg #[.int .i64 x, .int .i64 y]
/-- An int64. -/
def I64 (z : Int) : Prop := -9223372036854775808 ≤ z ∧ z ≤ 9223372036854775807
set_option maxHeartbeats 400000 in
theorem in_c (n : Int) (w : World) :
    Calls Tryz.prog 162 #[.int .i64 n] w fun e w' => e = .returned (.bool (inB n)) ∧ w' = w := by
  by_cases h1 : -2305843009213693952 ≤ n
  · by_cases h2 : n ≤ 2305843009213693952
    · have E : Hid (inB n = true) := (inB_iff n).2 ⟨h1, h2⟩
      go_enter Tryz.func162, Tryz.ntmps162
      go_wp2
      go_ret
      exact ⟨by rw [E.out]; rfl, rfl⟩
    · have E : Hid (inB n = false) := by show inB n = false; unfold inB; simp [h1, h2]
      go_enter Tryz.func162, Tryz.ntmps162
      go_wp2
      go_ret
      exact ⟨by rw [E.out]; rfl, rfl⟩
  · have E : Hid (inB n = false) := by show inB n = false; unfold inB; simp [h1]
    go_enter Tryz.func162, Tryz.ntmps162
    go_wp2
    go_ret
    exact ⟨by rw [E.out]; rfl, rfl⟩
set_option maxHeartbeats 400000 in
theorem may_c (a b d : Int) (w : World) :
    Calls Tryz.prog 154 #[symV a b d] w fun e w' => e = .returned (.bool (mayB a b d)) ∧ Below w.heap.size w w' := by
  have E : Hid (mayB a b d = (inB a && inB b && inB d)) := rfl
  go_enter Tryz.func154, Tryz.ntmps154
  cases ha : inB a with
  | false =>
    go_wp2_with (go_at_call 162; refine (in_c _ _).mono ?_; rintro e w' ⟨rfl, rfl⟩; (try rw [ha]))
    go_ret
    exact ⟨by rw [E.out, ha]; rfl, below_by⟩
  | true =>
    cases hb : inB b with
    | false =>
      go_wp2_with (go_at_call 162; refine (in_c _ _).mono ?_; rintro e w' ⟨rfl, rfl⟩; (first | rw [ha] | rw [hb]))
      go_ret
      exact ⟨by rw [E.out, ha, hb]; rfl, below_by⟩
    | true =>
      go_wp2_with (go_at_call 162; refine (in_c _ _).mono ?_; rintro e w' ⟨rfl, rfl⟩; (first | rw [ha] | rw [hb] | skip))
      go_ret
      exact ⟨by rw [E.out, ha, hb]; rfl, below_by⟩
end Go.Proofs.YtnoidlacjiafdaaGreat
namespace Go.Proofs.YtnoidlacjiafdaaGreat
open Go.RowKit

/-- mat.Adj. -/
def adjV (a b d : Int) : Value := if mayB a b d then symV d (-b) a else symV 0 0 0
set_option maxHeartbeats 400000 in
theorem adj_c (a b d : Int) (w : World) :
    Calls Tryz.prog 141 #[symV a b d] w fun e w' => e = .returned (adjV a b d) ∧ Below w.heap.size w w' := by
  have E : Hid (adjV a b d = if mayB a b d then symV d (-b) a else symV 0 0 0) := rfl
  cases hm : mayB a b d with
  | true =>
    have hw : IntKind.i64.wrap (-b) = -b := by have := (mayB_iff a b d).1 hm; rw [IntKind.wrap_i64]; omega
    go_enter Tryz.func141, Tryz.ntmps141
    go_wp2_with fail
    refine (may_c _ _ _ _).mono ?_; rintro e w1 ⟨rfl, hb1⟩; rw [hm]; have z_w1 := hb1.size; (try simp at z_w1); obtain ⟨y_w1_0_0, c_w1_0_0, f_w1_0_0, r_w1_0_0, t_w1_0_0, p_w1_0_0⟩ := bq hb1 (w.heap.size); obtain ⟨y_w1_0_1, c_w1_0_1, f_w1_0_1, r_w1_0_1, t_w1_0_1, p_w1_0_1⟩ := bq hb1 (w.heap.size + 1)
    go_wp2
    exact bodyPost_row 3 #[.int .i64 d, .int .i64 (-b), .int .i64 a] rfl rfl rfl Tryz.underlying25 rfl (by kernel_rfl) (row_of_cells 2 _ rfl (by intro i hi; rcases i with _ | _ | _ | i; (go_simp); (go_simp); (go_simp); exact absurd hi (by omega))) ⟨by rw [E.out, hm]; rfl, below_by⟩
  | false =>
    go_enter Tryz.func141, Tryz.ntmps141
    go_wp2_with fail
    refine (may_c _ _ _ _).mono ?_; rintro e w1 ⟨rfl, hb1⟩; rw [hm]; have z_w1 := hb1.size; (try simp at z_w1); obtain ⟨y_w1_0_0, c_w1_0_0, f_w1_0_0, r_w1_0_0, t_w1_0_0, p_w1_0_0⟩ := bq hb1 (w.heap.size); obtain ⟨y_w1_0_1, c_w1_0_1, f_w1_0_1, r_w1_0_1, t_w1_0_1, p_w1_0_1⟩ := bq hb1 (w.heap.size + 1)
    go_wp2
    exact bodyPost_row 3 #[.int .i64 0, .int .i64 0, .int .i64 0] rfl rfl rfl Tryz.underlying25 rfl (by kernel_rfl) (row_of_cells 2 _ rfl (by intro i hi; rcases i with _ | _ | _ | i; (go_simp); (go_simp); (go_simp); exact absurd hi (by omega))) ⟨by rw [E.out, hm]; rfl, below_by⟩
end Go.Proofs.YtnoidlacjiafdaaGreat
namespace Go.Proofs.YtnoidlacjiafdaaGreat
open Go.RowKit

set_option maxHeartbeats 400000 in
theorem times_c (a b : Int) (ha : I64 a) (hb : I64 b) (w : World) :
    Calls Tryz.prog 125 #[.int .i64 a, .int .i64 b] w fun e w' => e = .returned (.agg (WI.of (a * b)).cells) ∧ Below w.heap.size w w' := by
  have E := Lib.hid (WI.of_mul (Sm.lim (Sm.of64 ha.1 ha.2) (by decide)) (Sm.lim (Sm.of64 hb.1 hb.2) (by decide)))
  have HA := Lib.hid ha
  have HB := Lib.hid hb
  clear ha hb
  go_enter Tryz.func125, Tryz.ntmps125
  go_wp2_with fail
  refine (of_c _ HA.out.1 HA.out.2 _).mono ?_; rintro e w1 ⟨rfl, hb1⟩; have z_w1 := hb1.size; (try simp at z_w1); obtain ⟨y_w1_0_0, c_w1_0_0, f_w1_0_0, r_w1_0_0, t_w1_0_0, p_w1_0_0⟩ := bq hb1 (w.heap.size)
  go_wp2_with fail
  refine (of_c _ HB.out.1 HB.out.2 _).mono ?_; rintro e w2 ⟨rfl, hb2⟩; have z_w2 := hb2.size; (try simp at z_w2); obtain ⟨y_w2_0_0, c_w2_0_0, f_w2_0_0, r_w2_0_0, t_w2_0_0, p_w2_0_0⟩ := bq hb2 (w.heap.size)
  go_wp2_with fail
  refine (mul_I _ _ _).mono ?_; rintro e w3 ⟨rfl, hb3⟩; have z_w3 := hb3.size; (try simp at z_w3); obtain ⟨y_w3_0_0, c_w3_0_0, f_w3_0_0, r_w3_0_0, t_w3_0_0, p_w3_0_0⟩ := bq hb3 (w.heap.size)
  go_wp2
  exact bodyPost_row 18 ((WI.of a).mul (WI.of b)).cells rfl rfl rfl Tryz.underlying47 rfl info_Int (by go_simp) ⟨by rw [E.out], below_by⟩
set_option maxRecDepth 100000 in
set_option maxHeartbeats 1000000 in
theorem det_c (x y z : WI) (w : World) :
    Calls Tryz.prog 122 #[.agg x.cells, .agg y.cells, .agg z.cells] w fun e w' => e = .returned (.agg ((x.mul z).sub (y.mul y)).cells) ∧ Below w.heap.size w w' := by
  go_enter Tryz.func122, Tryz.ntmps122
  go_wp2_with fail
  go_region_held3 (fun w' => w'.row? w.heap.size 0 18 = some x.cells ∧ w'.row? (w.heap.size + 1) 0 18 = some y.cells ∧ w'.row? (w.heap.size + 1 + 1) 0 18 = some z.cells) (go_simp)
    (first
      | (go_at_call 42; refine (mul_I _ _ _).mono ?_; rintro e w1 ⟨rfl, hb1⟩; have z_w1 := hb1.size; (try simp at z_w1); obtain ⟨y_w1_0_0, c_w1_0_0, f_w1_0_0, r_w1_0_0, t_w1_0_0, p_w1_0_0⟩ := bq hb1 (w.heap.size); obtain ⟨y_w1_0_1, c_w1_0_1, f_w1_0_1, r_w1_0_1, t_w1_0_1, p_w1_0_1⟩ := bq hb1 (w.heap.size + 1); obtain ⟨y_w1_0_2, c_w1_0_2, f_w1_0_2, r_w1_0_2, t_w1_0_2, p_w1_0_2⟩ := bq hb1 (w.heap.size + 1 + 1); obtain ⟨y_w1_0_3, c_w1_0_3, f_w1_0_3, r_w1_0_3, t_w1_0_3, p_w1_0_3⟩ := bq hb1 (w.heap.size + 1 + 1 + 1))
      | (go_at_call 48; refine (sub_I _ _ _).mono ?_; rintro e w2 ⟨rfl, hb2⟩; have z_w2 := hb2.size; (try simp at z_w2); obtain ⟨y_w2_0_0, c_w2_0_0, f_w2_0_0, r_w2_0_0, t_w2_0_0, p_w2_0_0⟩ := bq hb2 (w.heap.size); obtain ⟨y_w2_0_1, c_w2_0_1, f_w2_0_1, r_w2_0_1, t_w2_0_1, p_w2_0_1⟩ := bq hb2 (w.heap.size + 1); obtain ⟨y_w2_0_2, c_w2_0_2, f_w2_0_2, r_w2_0_2, t_w2_0_2, p_w2_0_2⟩ := bq hb2 (w.heap.size + 1 + 1); obtain ⟨y_w2_0_3, c_w2_0_3, f_w2_0_3, r_w2_0_3, t_w2_0_3, p_w2_0_3⟩ := bq hb2 (w.heap.size + 1 + 1 + 1)))
  go_wp2
  exact bodyPost_row 18 ((x.mul z).sub (y.mul y)).cells rfl rfl rfl Tryz.underlying47 rfl info_Int (by go_simp) ⟨rfl, below_by⟩
/-- mat.psd. -/
def psdW (x y z : WI) : Bool := decide (0 ≤ x.sign) && decide (0 ≤ z.sign) && decide (0 ≤ ((x.mul z).sub (y.mul y)).sign)
set_option maxRecDepth 100000 in
set_option maxHeartbeats 1000000 in
theorem psd_c (x y z : WI) (w : World) :
    Calls Tryz.prog 138 #[.agg x.cells, .agg y.cells, .agg z.cells] w fun e w' => e = .returned (.bool (psdW x y z)) ∧ Below w.heap.size w w' := by
  have E : Hid (psdW x y z = (decide (0 ≤ x.sign) && decide (0 ≤ z.sign) && decide (0 ≤ ((x.mul z).sub (y.mul y)).sign))) := rfl
  by_cases h1 : 0 ≤ x.sign
  · by_cases h2 : 0 ≤ z.sign
    · go_enter Tryz.func138, Tryz.ntmps138
      go_wp2_with fail
      refine (sign_I _ _).mono ?_; rintro e w1 ⟨rfl, hb1⟩; have z_w1 := hb1.size; (try simp at z_w1); obtain ⟨y_w1_0_0, c_w1_0_0, f_w1_0_0, r_w1_0_0, t_w1_0_0, p_w1_0_0⟩ := bq hb1 (w.heap.size); obtain ⟨y_w1_0_1, c_w1_0_1, f_w1_0_1, r_w1_0_1, t_w1_0_1, p_w1_0_1⟩ := bq hb1 (w.heap.size + 1); obtain ⟨y_w1_0_2, c_w1_0_2, f_w1_0_2, r_w1_0_2, t_w1_0_2, p_w1_0_2⟩ := bq hb1 (w.heap.size + 1 + 1)
      go_wp2_with fail
      refine (sign_I _ _).mono ?_; rintro e w2 ⟨rfl, hb2⟩; have z_w2 := hb2.size; (try simp at z_w2); obtain ⟨y_w2_0_0, c_w2_0_0, f_w2_0_0, r_w2_0_0, t_w2_0_0, p_w2_0_0⟩ := bq hb2 (w.heap.size); obtain ⟨y_w2_0_1, c_w2_0_1, f_w2_0_1, r_w2_0_1, t_w2_0_1, p_w2_0_1⟩ := bq hb2 (w.heap.size + 1); obtain ⟨y_w2_0_2, c_w2_0_2, f_w2_0_2, r_w2_0_2, t_w2_0_2, p_w2_0_2⟩ := bq hb2 (w.heap.size + 1 + 1)
      go_wp2_with fail
      refine (det_c _ _ _ _).mono ?_; rintro e w3 ⟨rfl, hb3⟩; have z_w3 := hb3.size; (try simp at z_w3); obtain ⟨y_w3_0_0, c_w3_0_0, f_w3_0_0, r_w3_0_0, t_w3_0_0, p_w3_0_0⟩ := bq hb3 (w.heap.size); obtain ⟨y_w3_0_1, c_w3_0_1, f_w3_0_1, r_w3_0_1, t_w3_0_1, p_w3_0_1⟩ := bq hb3 (w.heap.size + 1); obtain ⟨y_w3_0_2, c_w3_0_2, f_w3_0_2, r_w3_0_2, t_w3_0_2, p_w3_0_2⟩ := bq hb3 (w.heap.size + 1 + 1)
      go_wp2_with fail
      refine (sign_I _ _).mono ?_; rintro e w4 ⟨rfl, hb4⟩; have z_w4 := hb4.size; (try simp at z_w4); obtain ⟨y_w4_0_0, c_w4_0_0, f_w4_0_0, r_w4_0_0, t_w4_0_0, p_w4_0_0⟩ := bq hb4 (w.heap.size); obtain ⟨y_w4_0_1, c_w4_0_1, f_w4_0_1, r_w4_0_1, t_w4_0_1, p_w4_0_1⟩ := bq hb4 (w.heap.size + 1); obtain ⟨y_w4_0_2, c_w4_0_2, f_w4_0_2, r_w4_0_2, t_w4_0_2, p_w4_0_2⟩ := bq hb4 (w.heap.size + 1 + 1)
      go_wp2
      go_ret
      exact ⟨by rw [E.out, decide_eq_true (show 0 ≤ x.sign by omega), decide_eq_true (show 0 ≤ z.sign by omega)]; simp, below_by⟩
    · go_enter Tryz.func138, Tryz.ntmps138
      go_wp2_with fail
      refine (sign_I _ _).mono ?_; rintro e w1 ⟨rfl, hb1⟩; have z_w1 := hb1.size; (try simp at z_w1); obtain ⟨y_w1_0_0, c_w1_0_0, f_w1_0_0, r_w1_0_0, t_w1_0_0, p_w1_0_0⟩ := bq hb1 (w.heap.size); obtain ⟨y_w1_0_1, c_w1_0_1, f_w1_0_1, r_w1_0_1, t_w1_0_1, p_w1_0_1⟩ := bq hb1 (w.heap.size + 1); obtain ⟨y_w1_0_2, c_w1_0_2, f_w1_0_2, r_w1_0_2, t_w1_0_2, p_w1_0_2⟩ := bq hb1 (w.heap.size + 1 + 1)
      go_wp2_with fail
      refine (sign_I _ _).mono ?_; rintro e w2 ⟨rfl, hb2⟩; have z_w2 := hb2.size; (try simp at z_w2); obtain ⟨y_w2_0_0, c_w2_0_0, f_w2_0_0, r_w2_0_0, t_w2_0_0, p_w2_0_0⟩ := bq hb2 (w.heap.size); obtain ⟨y_w2_0_1, c_w2_0_1, f_w2_0_1, r_w2_0_1, t_w2_0_1, p_w2_0_1⟩ := bq hb2 (w.heap.size + 1); obtain ⟨y_w2_0_2, c_w2_0_2, f_w2_0_2, r_w2_0_2, t_w2_0_2, p_w2_0_2⟩ := bq hb2 (w.heap.size + 1 + 1)
      go_wp2
      go_ret
      exact ⟨by rw [E.out, decide_eq_false (show ¬ 0 ≤ z.sign by omega)]; simp, below_by⟩
  · go_enter Tryz.func138, Tryz.ntmps138
    go_wp2_with fail
    refine (sign_I _ _).mono ?_; rintro e w1 ⟨rfl, hb1⟩; have z_w1 := hb1.size; (try simp at z_w1); obtain ⟨y_w1_0_0, c_w1_0_0, f_w1_0_0, r_w1_0_0, t_w1_0_0, p_w1_0_0⟩ := bq hb1 (w.heap.size); obtain ⟨y_w1_0_1, c_w1_0_1, f_w1_0_1, r_w1_0_1, t_w1_0_1, p_w1_0_1⟩ := bq hb1 (w.heap.size + 1); obtain ⟨y_w1_0_2, c_w1_0_2, f_w1_0_2, r_w1_0_2, t_w1_0_2, p_w1_0_2⟩ := bq hb1 (w.heap.size + 1 + 1)
    go_wp2
    go_ret
    exact ⟨by rw [E.out, decide_eq_false (show ¬ 0 ≤ x.sign by omega)]; simp, below_by⟩
theorem of_both (a b d : Int) (ha : Sm 127 a) (hb : Sm 127 b) (hd : Sm 127 d) : ((WI.of a).mul (WI.of d)).sub ((WI.of b).mul (WI.of b)) = WI.of (a * d - b * b) := by
  rw [WI.of_mul (ha.lim (by decide)) (hd.lim (by decide)), WI.of_mul (hb.lim (by decide)) (hb.lim (by decide)), WI.of_sub ((ha.mul hd).lim (by decide)) ((hb.mul hb).lim (by decide))]
/-- A B, B D is positive semidefinite. -/
def psdB (a b d : Int) : Bool := decide (0 ≤ a) && decide (0 ≤ d) && decide (0 ≤ a * d - b * b)
theorem psdW_of (a b d : Int) (ha : Sm 127 a) (hb : Sm 127 b) (hd : Sm 127 d) : psdW (WI.of a) (WI.of b) (WI.of d) = psdB a b d := by
  unfold psdW psdB
  rw [of_both a b d ha hb hd, WI.of_sign (ha.lim (by decide)), WI.of_sign (hd.lim (by decide)), WI.of_sign (((ha.mul hd).sub (hb.mul hb)).lim (by decide))]
  simp only [Int.sign_nonneg_iff]
theorem I64.sm {a : Int} (h : I64 a) : Sm 127 a := (Sm.of64 h.1 h.2).mono (by decide)
set_option maxRecDepth 100000 in
set_option maxHeartbeats 1000000 in
theorem matdet_c (a b d : Int) (ha : I64 a) (hb : I64 b) (hd : I64 d) (w : World) :
    Calls Tryz.prog 67 #[symV a b d] w fun e w' => e = .returned (.agg (WI.of (a * d - b * b)).cells) ∧ Below w.heap.size w w' := by
  have E := Lib.hid (of_both a b d ha.sm hb.sm hd.sm)
  have HA := Lib.hid ha
  have HB := Lib.hid hb
  have HD := Lib.hid hd
  clear ha hb hd
  go_enter Tryz.func67, Tryz.ntmps67
  go_wp2_with fail
  go_region_held3 (fun w' => w'.cell? ⟨w.heap.size, 0, none⟩ = some (.int .i64 a) ∧ w'.cell? ⟨w.heap.size, 1, none⟩ = some (.int .i64 b) ∧ w'.cell? ⟨w.heap.size, 2, none⟩ = some (.int .i64 d)) (go_simp)
    (first
      | (go_at_call 39; refine (of_c _ (by first | exact HA.out.1 | exact HB.out.1 | exact HD.out.1) (by first | exact HA.out.2 | exact HB.out.2 | exact HD.out.2) _).mono ?_; rintro e w1 ⟨rfl, hb1⟩; have z_w1 := hb1.size; (try simp at z_w1); obtain ⟨y_w1_0_0, c_w1_0_0, f_w1_0_0, r_w1_0_0, t_w1_0_0, p_w1_0_0⟩ := bq hb1 (w.heap.size); obtain ⟨y_w1_0_1, c_w1_0_1, f_w1_0_1, r_w1_0_1, t_w1_0_1, p_w1_0_1⟩ := bq hb1 (w.heap.size + 1))
      | (go_at_call 122; refine (det_c _ _ _ _).mono ?_; rintro e w2 ⟨rfl, hb2⟩; have z_w2 := hb2.size; (try simp at z_w2); obtain ⟨y_w2_0_0, c_w2_0_0, f_w2_0_0, r_w2_0_0, t_w2_0_0, p_w2_0_0⟩ := bq hb2 (w.heap.size); obtain ⟨y_w2_0_1, c_w2_0_1, f_w2_0_1, r_w2_0_1, t_w2_0_1, p_w2_0_1⟩ := bq hb2 (w.heap.size + 1)))
  go_wp2
  exact bodyPost_row 18 (((WI.of a).mul (WI.of d)).sub ((WI.of b).mul (WI.of b))).cells rfl rfl rfl Tryz.underlying47 rfl info_Int (by go_simp) ⟨by rw [E.out], below_by⟩
end Go.Proofs.YtnoidlacjiafdaaGreat
namespace Go.Proofs.YtnoidlacjiafdaaGreat
open Go.RowKit

theorem quad_eq (a b d x y : Int) (ha : I64 a) (hb : I64 b) (hd : I64 d) (hx : I64 x) (hy : I64 y) :
    (((WI.of a).mul (WI.of (x * x))).add ((WI.of d).mul (WI.of (y * y)))).add (((WI.of b).mul (WI.of (x * y))).add ((WI.of b).mul (WI.of (x * y)))) = WI.of (a * (x * x) + d * (y * y) + (b * (x * y) + b * (x * y))) := by
  have A := Sm.of64 ha.1 ha.2
  have B := Sm.of64 hb.1 hb.2
  have D := Sm.of64 hd.1 hd.2
  have X := Sm.of64 hx.1 hx.2
  have Y := Sm.of64 hy.1 hy.2
  rw [WI.of_mul (A.lim (by decide)) ((X.mul X).lim (by decide)), WI.of_mul (D.lim (by decide)) ((Y.mul Y).lim (by decide)), WI.of_mul (B.lim (by decide)) ((X.mul Y).lim (by decide)),
    WI.of_add ((A.mul (X.mul X)).lim (by decide)) ((D.mul (Y.mul Y)).lim (by decide)), WI.of_add ((B.mul (X.mul Y)).lim (by decide)) ((B.mul (X.mul Y)).lim (by decide)),
    WI.of_add (((A.mul (X.mul X)).add (D.mul (Y.mul Y))).lim (by decide)) (((B.mul (X.mul Y)).add (B.mul (X.mul Y))).lim (by decide))]
set_option maxRecDepth 100000 in
set_option maxHeartbeats 2000000 in
theorem quad_c (a b d x y : Int) (ha : I64 a) (hb : I64 b) (hd : I64 d) (hx : I64 x) (hy : I64 y) (w : World) :
    Calls Tryz.prog 72 #[symV a b d, ptV x y] w fun e w' => e = .returned (.agg (WI.of (a * (x * x) + d * (y * y) + (b * (x * y) + b * (x * y)))).cells) ∧ Below w.heap.size w w' := by
  have E := Lib.hid (quad_eq a b d x y ha hb hd hx hy)
  have HA := Lib.hid ha
  have HB := Lib.hid hb
  have HD := Lib.hid hd
  have HX := Lib.hid hx
  have HY := Lib.hid hy
  clear ha hb hd hx hy
  go_enter Tryz.func72, Tryz.ntmps72
  go_wp2_with fail
  go_cut [5] from 8 (fun s5 wc => ∃ g, s5 = .pointer (some ⟨g, 0, none⟩) ∧ w.heap.size + 1 + 1 + 1 ≤ g ∧ g < wc.heap.size ∧ wc.row? g 0 18 = some ((WI.of a).mul (WI.of (x * x))).cells ∧ wc.fits (w.heap.size + 1 + 1) 18 = true ∧
    wc.cell? ⟨w.heap.size, 0, none⟩ = some (.int .i64 a) ∧ wc.cell? ⟨w.heap.size, 1, none⟩ = some (.int .i64 b) ∧ wc.cell? ⟨w.heap.size, 2, none⟩ = some (.int .i64 d) ∧
    wc.cell? ⟨w.heap.size + 1, 0, none⟩ = some (.int .i64 x) ∧ wc.cell? ⟨w.heap.size + 1, 1, none⟩ = some (.int .i64 y) ∧ Hid (Below w.heap.size w wc))
  case first =>
    go_region_held3 (fun w' => w'.cell? ⟨w.heap.size, 0, none⟩ = some (.int .i64 a) ∧ w'.cell? ⟨w.heap.size + 1, 0, none⟩ = some (.int .i64 x)) (go_simp)
      (first
        | (go_at_call 39; refine (of_c _ HA.out.1 HA.out.2 _).mono ?_; rintro e w1 ⟨rfl, hb1⟩; have z_w1 := hb1.size; (try simp at z_w1); obtain ⟨y_w1_0_0, c_w1_0_0, f_w1_0_0, r_w1_0_0, t_w1_0_0, p_w1_0_0⟩ := bq hb1 (w.heap.size); obtain ⟨y_w1_0_1, c_w1_0_1, f_w1_0_1, r_w1_0_1, t_w1_0_1, p_w1_0_1⟩ := bq hb1 (w.heap.size + 1); obtain ⟨y_w1_0_2, c_w1_0_2, f_w1_0_2, r_w1_0_2, t_w1_0_2, p_w1_0_2⟩ := bq hb1 (w.heap.size + 1 + 1); (try (refine with_imp (bk hb1 (w.heap.size + 1 + 1 + 1)) ?_ ?_; (focus (first | omega | (simp; done) | (simp; omega))); rintro ⟨y_w1_q1, c_w1_q1, f_w1_q1, r_w1_q1, t_w1_q1, p_w1_q1⟩)))
        | (go_at_call 125; refine (times_c _ _ HX.out HX.out _).mono ?_; rintro e w2 ⟨rfl, hb2⟩; have z_w2 := hb2.size; (try simp at z_w2); obtain ⟨y_w2_0_0, c_w2_0_0, f_w2_0_0, r_w2_0_0, t_w2_0_0, p_w2_0_0⟩ := bq hb2 (w.heap.size); obtain ⟨y_w2_0_1, c_w2_0_1, f_w2_0_1, r_w2_0_1, t_w2_0_1, p_w2_0_1⟩ := bq hb2 (w.heap.size + 1); obtain ⟨y_w2_0_2, c_w2_0_2, f_w2_0_2, r_w2_0_2, t_w2_0_2, p_w2_0_2⟩ := bq hb2 (w.heap.size + 1 + 1); (try (refine with_imp (bk hb2 (w.heap.size + 1 + 1 + 1)) ?_ ?_; (focus (first | omega | (simp; done) | (simp; omega))); rintro ⟨y_w2_q1, c_w2_q1, f_w2_q1, r_w2_q1, t_w2_q1, p_w2_q1⟩)); (try (refine with_imp (bk hb2 (w1.heap.size)) ?_ ?_; (focus (first | omega | (simp; done) | (simp; omega))); rintro ⟨y_w2_q2, c_w2_q2, f_w2_q2, r_w2_q2, t_w2_q2, p_w2_q2⟩; have n0_w2_q2 : ¬ (w.heap.size = w1.heap.size) := (by omega); have n1_w2_q2 : ¬ (w.heap.size + 1 = w1.heap.size) := (by omega); have n2_w2_q2 : ¬ (w.heap.size + 1 + 1 = w1.heap.size) := (by omega))))
        | (go_at_call 42; refine (mul_I _ _ _).mono ?_; rintro e w3 ⟨rfl, hb3⟩; have z_w3 := hb3.size; (try simp at z_w3); obtain ⟨y_w3_0_0, c_w3_0_0, f_w3_0_0, r_w3_0_0, t_w3_0_0, p_w3_0_0⟩ := bq hb3 (w.heap.size); obtain ⟨y_w3_0_1, c_w3_0_1, f_w3_0_1, r_w3_0_1, t_w3_0_1, p_w3_0_1⟩ := bq hb3 (w.heap.size + 1); obtain ⟨y_w3_0_2, c_w3_0_2, f_w3_0_2, r_w3_0_2, t_w3_0_2, p_w3_0_2⟩ := bq hb3 (w.heap.size + 1 + 1); (try (refine with_imp (bk hb3 (w.heap.size + 1 + 1 + 1)) ?_ ?_; (focus (first | omega | (simp; done) | (simp; omega))); rintro ⟨y_w3_q1, c_w3_q1, f_w3_q1, r_w3_q1, t_w3_q1, p_w3_q1⟩)); (try (refine with_imp (bk hb3 (w1.heap.size)) ?_ ?_; (focus (first | omega | (simp; done) | (simp; omega))); rintro ⟨y_w3_q2, c_w3_q2, f_w3_q2, r_w3_q2, t_w3_q2, p_w3_q2⟩; have n0_w3_q2 : ¬ (w.heap.size = w1.heap.size) := (by omega); have n1_w3_q2 : ¬ (w.heap.size + 1 = w1.heap.size) := (by omega); have n2_w3_q2 : ¬ (w.heap.size + 1 + 1 = w1.heap.size) := (by omega))); (try (refine with_imp (bk hb3 (w2.heap.size)) ?_ ?_; (focus (first | omega | (simp; done) | (simp; omega))); rintro ⟨y_w3_q3, c_w3_q3, f_w3_q3, r_w3_q3, t_w3_q3, p_w3_q3⟩; have n0_w3_q3 : ¬ (w.heap.size = w2.heap.size) := (by omega); have n1_w3_q3 : ¬ (w.heap.size + 1 = w2.heap.size) := (by omega); have n2_w3_q3 : ¬ (w.heap.size + 1 + 1 = w2.heap.size) := (by omega)))))
    all_goals go_wp2_with fail
    all_goals go_meet
    all_goals exact ⟨_, rfl, (by first | omega | (simp; done) | (simp; omega) | fail), (by first | omega | (simp; done) | (simp; omega) | fail), (by go_simp), (by go_simp), (by go_simp), (by go_simp), (by go_simp), (by go_simp), (by go_simp), below_by⟩
  case rest =>
    obtain ⟨g, rfl, hg1, hg2, hgr, hf, c0, c1, c2, c3, c4, HBL⟩ := hcut
    have y0 : w.heap.size < wc.heap.size := by omega
    have y1 : w.heap.size + 1 < wc.heap.size := by omega
    have y2 : w.heap.size + 1 + 1 < wc.heap.size := by omega
    go_wp2_with fail
    go_cut [6] from 8 (fun s6 wc => ∃ h, s6 = .pointer (some ⟨h, 0, none⟩) ∧ w.heap.size + 1 + 1 + 1 ≤ h ∧ h < wc.heap.size ∧ wc.row? h 0 18 = some ((WI.of d).mul (WI.of (y * y))).cells ∧ g < wc.heap.size ∧ wc.row? g 0 18 = some ((WI.of a).mul (WI.of (x * x))).cells ∧ wc.fits (w.heap.size + 1 + 1) 18 = true ∧
      wc.cell? ⟨w.heap.size, 1, none⟩ = some (.int .i64 b) ∧
      wc.cell? ⟨w.heap.size + 1, 0, none⟩ = some (.int .i64 x) ∧ wc.cell? ⟨w.heap.size + 1, 1, none⟩ = some (.int .i64 y) ∧ Hid (Below w.heap.size w wc))
    case first =>
      go_region_held3 (fun w' => w'.cell? ⟨w.heap.size, 2, none⟩ = some (.int .i64 d) ∧ w'.cell? ⟨w.heap.size + 1, 1, none⟩ = some (.int .i64 y)) (go_simp)
        (first
          | (go_at_call 39; refine (of_c _ HD.out.1 HD.out.2 _).mono ?_; rintro e w1 ⟨rfl, hb1⟩; have z_w1 := hb1.size; (try simp at z_w1); obtain ⟨y_w1_0_0, c_w1_0_0, f_w1_0_0, r_w1_0_0, t_w1_0_0, p_w1_0_0⟩ := bq hb1 (w.heap.size); obtain ⟨y_w1_0_1, c_w1_0_1, f_w1_0_1, r_w1_0_1, t_w1_0_1, p_w1_0_1⟩ := bq hb1 (w.heap.size + 1); obtain ⟨y_w1_0_2, c_w1_0_2, f_w1_0_2, r_w1_0_2, t_w1_0_2, p_w1_0_2⟩ := bq hb1 (w.heap.size + 1 + 1); obtain ⟨y_w1_g, c_w1_g, f_w1_g, r_w1_g, t_w1_g, p_w1_g⟩ := bq hb1 (g); (try (refine with_imp (bk hb1 (wc.heap.size)) ?_ ?_; (focus (first | omega | (simp; done) | (simp; omega))); rintro ⟨y_w1_q2, c_w1_q2, f_w1_q2, r_w1_q2, t_w1_q2, p_w1_q2⟩; have ngg_w1_q2 : ¬ (g = wc.heap.size) := (by omega); have n0_w1_q2 : ¬ (w.heap.size = wc.heap.size) := (by omega); have n1_w1_q2 : ¬ (w.heap.size + 1 = wc.heap.size) := (by omega); have n2_w1_q2 : ¬ (w.heap.size + 1 + 1 = wc.heap.size) := (by omega))))
          | (go_at_call 125; refine (times_c _ _ HY.out HY.out _).mono ?_; rintro e w2 ⟨rfl, hb2⟩; have z_w2 := hb2.size; (try simp at z_w2); obtain ⟨y_w2_0_0, c_w2_0_0, f_w2_0_0, r_w2_0_0, t_w2_0_0, p_w2_0_0⟩ := bq hb2 (w.heap.size); obtain ⟨y_w2_0_1, c_w2_0_1, f_w2_0_1, r_w2_0_1, t_w2_0_1, p_w2_0_1⟩ := bq hb2 (w.heap.size + 1); obtain ⟨y_w2_0_2, c_w2_0_2, f_w2_0_2, r_w2_0_2, t_w2_0_2, p_w2_0_2⟩ := bq hb2 (w.heap.size + 1 + 1); obtain ⟨y_w2_g, c_w2_g, f_w2_g, r_w2_g, t_w2_g, p_w2_g⟩ := bq hb2 (g); (try (refine with_imp (bk hb2 (wc.heap.size)) ?_ ?_; (focus (first | omega | (simp; done) | (simp; omega))); rintro ⟨y_w2_q2, c_w2_q2, f_w2_q2, r_w2_q2, t_w2_q2, p_w2_q2⟩; have ngg_w2_q2 : ¬ (g = wc.heap.size) := (by omega); have n0_w2_q2 : ¬ (w.heap.size = wc.heap.size) := (by omega); have n1_w2_q2 : ¬ (w.heap.size + 1 = wc.heap.size) := (by omega); have n2_w2_q2 : ¬ (w.heap.size + 1 + 1 = wc.heap.size) := (by omega))); (try (refine with_imp (bk hb2 (w1.heap.size)) ?_ ?_; (focus (first | omega | (simp; done) | (simp; omega))); rintro ⟨y_w2_q3, c_w2_q3, f_w2_q3, r_w2_q3, t_w2_q3, p_w2_q3⟩; have ngg_w2_q3 : ¬ (g = w1.heap.size) := (by omega); have n0_w2_q3 : ¬ (w.heap.size = w1.heap.size) := (by omega); have n1_w2_q3 : ¬ (w.heap.size + 1 = w1.heap.size) := (by omega); have n2_w2_q3 : ¬ (w.heap.size + 1 + 1 = w1.heap.size) := (by omega))))
          | (go_at_call 42; refine (mul_I _ _ _).mono ?_; rintro e w3 ⟨rfl, hb3⟩; have z_w3 := hb3.size; (try simp at z_w3); obtain ⟨y_w3_0_0, c_w3_0_0, f_w3_0_0, r_w3_0_0, t_w3_0_0, p_w3_0_0⟩ := bq hb3 (w.heap.size); obtain ⟨y_w3_0_1, c_w3_0_1, f_w3_0_1, r_w3_0_1, t_w3_0_1, p_w3_0_1⟩ := bq hb3 (w.heap.size + 1); obtain ⟨y_w3_0_2, c_w3_0_2, f_w3_0_2, r_w3_0_2, t_w3_0_2, p_w3_0_2⟩ := bq hb3 (w.heap.size + 1 + 1); obtain ⟨y_w3_g, c_w3_g, f_w3_g, r_w3_g, t_w3_g, p_w3_g⟩ := bq hb3 (g); (try (refine with_imp (bk hb3 (wc.heap.size)) ?_ ?_; (focus (first | omega | (simp; done) | (simp; omega))); rintro ⟨y_w3_q2, c_w3_q2, f_w3_q2, r_w3_q2, t_w3_q2, p_w3_q2⟩; have ngg_w3_q2 : ¬ (g = wc.heap.size) := (by omega); have n0_w3_q2 : ¬ (w.heap.size = wc.heap.size) := (by omega); have n1_w3_q2 : ¬ (w.heap.size + 1 = wc.heap.size) := (by omega); have n2_w3_q2 : ¬ (w.heap.size + 1 + 1 = wc.heap.size) := (by omega))); (try (refine with_imp (bk hb3 (w1.heap.size)) ?_ ?_; (focus (first | omega | (simp; done) | (simp; omega))); rintro ⟨y_w3_q3, c_w3_q3, f_w3_q3, r_w3_q3, t_w3_q3, p_w3_q3⟩; have ngg_w3_q3 : ¬ (g = w1.heap.size) := (by omega); have n0_w3_q3 : ¬ (w.heap.size = w1.heap.size) := (by omega); have n1_w3_q3 : ¬ (w.heap.size + 1 = w1.heap.size) := (by omega); have n2_w3_q3 : ¬ (w.heap.size + 1 + 1 = w1.heap.size) := (by omega))); (try (refine with_imp (bk hb3 (w2.heap.size)) ?_ ?_; (focus (first | omega | (simp; done) | (simp; omega))); rintro ⟨y_w3_q4, c_w3_q4, f_w3_q4, r_w3_q4, t_w3_q4, p_w3_q4⟩; have ngg_w3_q4 : ¬ (g = w2.heap.size) := (by omega); have n0_w3_q4 : ¬ (w.heap.size = w2.heap.size) := (by omega); have n1_w3_q4 : ¬ (w.heap.size + 1 = w2.heap.size) := (by omega); have n2_w3_q4 : ¬ (w.heap.size + 1 + 1 = w2.heap.size) := (by omega)))))
      all_goals go_wp2_with fail
      all_goals go_meet
      all_goals exact ⟨_, rfl, (by first | omega | (simp; done) | (simp; omega) | fail), (by first | omega | (simp; done) | (simp; omega) | fail), (by go_simp), (by first | omega | (simp; done) | (simp; omega) | fail), (by go_simp), (by go_simp), (by go_simp), (by go_simp), (by go_simp), below_by⟩
    case rest =>
      obtain ⟨h, rfl, hh1, hh2, hhr, hg3, hgr, hf, c1, c3, c4, HBL⟩ := hcut
      have y0 : w.heap.size < wc.heap.size := by omega
      have y1 : w.heap.size + 1 < wc.heap.size := by omega
      have y2 : w.heap.size + 1 + 1 < wc.heap.size := by omega
      go_wp2_with fail
      go_cut [7] from 8 (fun s7 wc => ∃ j, s7 = .pointer (some ⟨j, 0, none⟩) ∧ w.heap.size + 1 + 1 + 1 ≤ j ∧ j < wc.heap.size ∧ wc.row? j 0 18 = some ((WI.of b).mul (WI.of (x * y))).cells ∧
        h < wc.heap.size ∧ wc.row? h 0 18 = some ((WI.of d).mul (WI.of (y * y))).cells ∧ g < wc.heap.size ∧ wc.row? g 0 18 = some ((WI.of a).mul (WI.of (x * x))).cells ∧ wc.fits (w.heap.size + 1 + 1) 18 = true ∧ Hid (Below w.heap.size w wc))
      case first =>
        go_region_held3 (fun w' => w'.cell? ⟨w.heap.size, 1, none⟩ = some (.int .i64 b) ∧ w'.cell? ⟨w.heap.size + 1, 0, none⟩ = some (.int .i64 x) ∧ w'.cell? ⟨w.heap.size + 1, 1, none⟩ = some (.int .i64 y)) (go_simp)
          (first
            | (go_at_call 39; refine (of_c _ HB.out.1 HB.out.2 _).mono ?_; rintro e w1 ⟨rfl, hb1⟩; have z_w1 := hb1.size; (try simp at z_w1); obtain ⟨y_w1_0_0, c_w1_0_0, f_w1_0_0, r_w1_0_0, t_w1_0_0, p_w1_0_0⟩ := bq hb1 (w.heap.size); obtain ⟨y_w1_0_1, c_w1_0_1, f_w1_0_1, r_w1_0_1, t_w1_0_1, p_w1_0_1⟩ := bq hb1 (w.heap.size + 1); obtain ⟨y_w1_0_2, c_w1_0_2, f_w1_0_2, r_w1_0_2, t_w1_0_2, p_w1_0_2⟩ := bq hb1 (w.heap.size + 1 + 1); obtain ⟨y_w1_g, c_w1_g, f_w1_g, r_w1_g, t_w1_g, p_w1_g⟩ := bq hb1 (g); obtain ⟨y_w1_h, c_w1_h, f_w1_h, r_w1_h, t_w1_h, p_w1_h⟩ := bq hb1 (h); (try (refine with_imp (bk hb1 (wc.heap.size)) ?_ ?_; (focus (first | omega | (simp; done) | (simp; omega))); rintro ⟨y_w1_q3, c_w1_q3, f_w1_q3, r_w1_q3, t_w1_q3, p_w1_q3⟩; have ngg_w1_q3 : ¬ (g = wc.heap.size) := (by omega); have ngh_w1_q3 : ¬ (h = wc.heap.size) := (by omega); have n0_w1_q3 : ¬ (w.heap.size = wc.heap.size) := (by omega); have n1_w1_q3 : ¬ (w.heap.size + 1 = wc.heap.size) := (by omega); have n2_w1_q3 : ¬ (w.heap.size + 1 + 1 = wc.heap.size) := (by omega))))
            | (go_at_call 125; refine (times_c _ _ HX.out HY.out _).mono ?_; rintro e w2 ⟨rfl, hb2⟩; have z_w2 := hb2.size; (try simp at z_w2); obtain ⟨y_w2_0_0, c_w2_0_0, f_w2_0_0, r_w2_0_0, t_w2_0_0, p_w2_0_0⟩ := bq hb2 (w.heap.size); obtain ⟨y_w2_0_1, c_w2_0_1, f_w2_0_1, r_w2_0_1, t_w2_0_1, p_w2_0_1⟩ := bq hb2 (w.heap.size + 1); obtain ⟨y_w2_0_2, c_w2_0_2, f_w2_0_2, r_w2_0_2, t_w2_0_2, p_w2_0_2⟩ := bq hb2 (w.heap.size + 1 + 1); obtain ⟨y_w2_g, c_w2_g, f_w2_g, r_w2_g, t_w2_g, p_w2_g⟩ := bq hb2 (g); obtain ⟨y_w2_h, c_w2_h, f_w2_h, r_w2_h, t_w2_h, p_w2_h⟩ := bq hb2 (h); (try (refine with_imp (bk hb2 (wc.heap.size)) ?_ ?_; (focus (first | omega | (simp; done) | (simp; omega))); rintro ⟨y_w2_q3, c_w2_q3, f_w2_q3, r_w2_q3, t_w2_q3, p_w2_q3⟩; have ngg_w2_q3 : ¬ (g = wc.heap.size) := (by omega); have ngh_w2_q3 : ¬ (h = wc.heap.size) := (by omega); have n0_w2_q3 : ¬ (w.heap.size = wc.heap.size) := (by omega); have n1_w2_q3 : ¬ (w.heap.size + 1 = wc.heap.size) := (by omega); have n2_w2_q3 : ¬ (w.heap.size + 1 + 1 = wc.heap.size) := (by omega))); (try (refine with_imp (bk hb2 (w1.heap.size)) ?_ ?_; (focus (first | omega | (simp; done) | (simp; omega))); rintro ⟨y_w2_q4, c_w2_q4, f_w2_q4, r_w2_q4, t_w2_q4, p_w2_q4⟩; have ngg_w2_q4 : ¬ (g = w1.heap.size) := (by omega); have ngh_w2_q4 : ¬ (h = w1.heap.size) := (by omega); have n0_w2_q4 : ¬ (w.heap.size = w1.heap.size) := (by omega); have n1_w2_q4 : ¬ (w.heap.size + 1 = w1.heap.size) := (by omega); have n2_w2_q4 : ¬ (w.heap.size + 1 + 1 = w1.heap.size) := (by omega))))
            | (go_at_call 42; refine (mul_I _ _ _).mono ?_; rintro e w3 ⟨rfl, hb3⟩; have z_w3 := hb3.size; (try simp at z_w3); obtain ⟨y_w3_0_0, c_w3_0_0, f_w3_0_0, r_w3_0_0, t_w3_0_0, p_w3_0_0⟩ := bq hb3 (w.heap.size); obtain ⟨y_w3_0_1, c_w3_0_1, f_w3_0_1, r_w3_0_1, t_w3_0_1, p_w3_0_1⟩ := bq hb3 (w.heap.size + 1); obtain ⟨y_w3_0_2, c_w3_0_2, f_w3_0_2, r_w3_0_2, t_w3_0_2, p_w3_0_2⟩ := bq hb3 (w.heap.size + 1 + 1); obtain ⟨y_w3_g, c_w3_g, f_w3_g, r_w3_g, t_w3_g, p_w3_g⟩ := bq hb3 (g); obtain ⟨y_w3_h, c_w3_h, f_w3_h, r_w3_h, t_w3_h, p_w3_h⟩ := bq hb3 (h); (try (refine with_imp (bk hb3 (wc.heap.size)) ?_ ?_; (focus (first | omega | (simp; done) | (simp; omega))); rintro ⟨y_w3_q3, c_w3_q3, f_w3_q3, r_w3_q3, t_w3_q3, p_w3_q3⟩; have ngg_w3_q3 : ¬ (g = wc.heap.size) := (by omega); have ngh_w3_q3 : ¬ (h = wc.heap.size) := (by omega); have n0_w3_q3 : ¬ (w.heap.size = wc.heap.size) := (by omega); have n1_w3_q3 : ¬ (w.heap.size + 1 = wc.heap.size) := (by omega); have n2_w3_q3 : ¬ (w.heap.size + 1 + 1 = wc.heap.size) := (by omega))); (try (refine with_imp (bk hb3 (w1.heap.size)) ?_ ?_; (focus (first | omega | (simp; done) | (simp; omega))); rintro ⟨y_w3_q4, c_w3_q4, f_w3_q4, r_w3_q4, t_w3_q4, p_w3_q4⟩; have ngg_w3_q4 : ¬ (g = w1.heap.size) := (by omega); have ngh_w3_q4 : ¬ (h = w1.heap.size) := (by omega); have n0_w3_q4 : ¬ (w.heap.size = w1.heap.size) := (by omega); have n1_w3_q4 : ¬ (w.heap.size + 1 = w1.heap.size) := (by omega); have n2_w3_q4 : ¬ (w.heap.size + 1 + 1 = w1.heap.size) := (by omega))); (try (refine with_imp (bk hb3 (w2.heap.size)) ?_ ?_; (focus (first | omega | (simp; done) | (simp; omega))); rintro ⟨y_w3_q5, c_w3_q5, f_w3_q5, r_w3_q5, t_w3_q5, p_w3_q5⟩; have ngg_w3_q5 : ¬ (g = w2.heap.size) := (by omega); have ngh_w3_q5 : ¬ (h = w2.heap.size) := (by omega); have n0_w3_q5 : ¬ (w.heap.size = w2.heap.size) := (by omega); have n1_w3_q5 : ¬ (w.heap.size + 1 = w2.heap.size) := (by omega); have n2_w3_q5 : ¬ (w.heap.size + 1 + 1 = w2.heap.size) := (by omega)))))
        all_goals go_wp2_with fail
        all_goals go_meet
        all_goals exact ⟨_, rfl, (by first | omega | (simp; done) | (simp; omega) | fail), (by first | omega | (simp; done) | (simp; omega) | fail), (by go_simp), (by first | omega | (simp; done) | (simp; omega) | fail), (by go_simp), (by first | omega | (simp; done) | (simp; omega) | fail), (by go_simp), (by go_simp), below_by⟩
      case rest =>
        obtain ⟨j, rfl, hj1, hj2, hjr, hh3, hhr, hg4, hgr, hf, HBL⟩ := hcut
        have y0 : w.heap.size < wc.heap.size := by omega
        have y1 : w.heap.size + 1 < wc.heap.size := by omega
        have y2 : w.heap.size + 1 + 1 < wc.heap.size := by omega
        go_wp2_with fail
        go_region_held3 (fun w' => w'.row? g 0 18 = some ((WI.of a).mul (WI.of (x * x))).cells ∧ w'.row? h 0 18 = some ((WI.of d).mul (WI.of (y * y))).cells ∧ w'.row? j 0 18 = some ((WI.of b).mul (WI.of (x * y))).cells) (go_simp)
          (first
            | (go_at_call 41; refine (add_I _ _ _).mono ?_; rintro e w1 ⟨rfl, hb1⟩; have z_w1 := hb1.size; (try simp at z_w1); obtain ⟨y_w1_0_0, c_w1_0_0, f_w1_0_0, r_w1_0_0, t_w1_0_0, p_w1_0_0⟩ := bq hb1 (w.heap.size); obtain ⟨y_w1_0_1, c_w1_0_1, f_w1_0_1, r_w1_0_1, t_w1_0_1, p_w1_0_1⟩ := bq hb1 (w.heap.size + 1); obtain ⟨y_w1_0_2, c_w1_0_2, f_w1_0_2, r_w1_0_2, t_w1_0_2, p_w1_0_2⟩ := bq hb1 (w.heap.size + 1 + 1); obtain ⟨y_w1_g, c_w1_g, f_w1_g, r_w1_g, t_w1_g, p_w1_g⟩ := bq hb1 (g); obtain ⟨y_w1_h, c_w1_h, f_w1_h, r_w1_h, t_w1_h, p_w1_h⟩ := bq hb1 (h); obtain ⟨y_w1_j, c_w1_j, f_w1_j, r_w1_j, t_w1_j, p_w1_j⟩ := bq hb1 (j); have k1 : ¬ (g = w.heap.size + 1 + 1) := (by omega); have k2 : ¬ (h = w.heap.size + 1 + 1) := (by omega); have k3 : ¬ (j = w.heap.size + 1 + 1) := (by omega)))
        go_wp2
        exact bodyPost_row 18 ((((WI.of a).mul (WI.of (x * x))).add ((WI.of d).mul (WI.of (y * y)))).add (((WI.of b).mul (WI.of (x * y))).add ((WI.of b).mul (WI.of (x * y))))).cells rfl rfl rfl Tryz.underlying47 rfl info_Int (by go_simp) ⟨by rw [E.out], below_by⟩
end Go.Proofs.YtnoidlacjiafdaaGreat
namespace Go.Proofs.YtnoidlacjiafdaaGreat
open Go.RowKit

theorem less_eq (n x y : Int) (hn : I64 n) (hx : I64 x) (hy : I64 y) : (WI.of n).sub (WI.of (x * y)) = WI.of (n - x * y) :=
  WI.of_sub ((Sm.of64 hn.1 hn.2).lim (by decide)) (((Sm.of64 hx.1 hx.2).mul (Sm.of64 hy.1 hy.2)).lim (by decide))
theorem less_sm (n x y : Int) (hn : I64 n) (hx : I64 x) (hy : I64 y) : Sm 127 (n - x * y) :=
  Sm.sub ((Sm.of64 hn.1 hn.2).mono (by decide)) ((Sm.of64 hx.1 hx.2).mul (Sm.of64 hy.1 hy.2))
set_option maxHeartbeats 1000000 in
theorem less_c (n x y : Int) (hn : I64 n) (hx : I64 x) (hy : I64 y) (w : World) :
    Calls Tryz.prog 137 #[.int .i64 n, .int .i64 x, .int .i64 y] w fun e w' => e = .returned (.agg (WI.of (n - x * y)).cells) ∧ Below w.heap.size w w' := by
  have E := Lib.hid (less_eq n x y hn hx hy)
  have HN := Lib.hid hn
  have HX := Lib.hid hx
  have HY := Lib.hid hy
  clear hn hx hy
  go_enter Tryz.func137, Tryz.ntmps137
  go_wp2_with fail
  refine (of_c _ HN.out.1 HN.out.2 _).mono ?_; rintro e w1 ⟨rfl, hb1⟩; have z_w1 := hb1.size; (try simp at z_w1); obtain ⟨y_w1_0_0, c_w1_0_0, f_w1_0_0, r_w1_0_0, t_w1_0_0, p_w1_0_0⟩ := bq hb1 (w.heap.size)
  go_wp2_with fail
  refine (times_c _ _ HX.out HY.out _).mono ?_; rintro e w2 ⟨rfl, hb2⟩; have z_w2 := hb2.size; (try simp at z_w2); obtain ⟨y_w2_0_0, c_w2_0_0, f_w2_0_0, r_w2_0_0, t_w2_0_0, p_w2_0_0⟩ := bq hb2 (w.heap.size)
  go_wp2_with fail
  refine (sub_I _ _ _).mono ?_; rintro e w3 ⟨rfl, hb3⟩; have z_w3 := hb3.size; (try simp at z_w3); obtain ⟨y_w3_0_0, c_w3_0_0, f_w3_0_0, r_w3_0_0, t_w3_0_0, p_w3_0_0⟩ := bq hb3 (w.heap.size)
  go_wp2
  exact bodyPost_row 18 ((WI.of n).sub (WI.of (x * y))).cells rfl rfl rfl Tryz.underlying47 rfl info_Int (by go_simp) ⟨by rw [E.out], below_by⟩
/-- mat.Holds. -/
def holdsB (a b d x y : Int) : Bool := psdB (a - x * x) (b - x * y) (d - y * y)
set_option maxRecDepth 100000 in
set_option maxHeartbeats 2000000 in
theorem holds_c (a b d x y : Int) (ha : I64 a) (hb : I64 b) (hd : I64 d) (hx : I64 x) (hy : I64 y) (w : World) :
    Calls Tryz.prog 94 #[symV a b d, ptV x y] w fun e w' => e = .returned (.bool (holdsB a b d x y)) ∧ Below w.heap.size w w' := by
  have E : Hid (psdW (WI.of (a - x * x)) (WI.of (b - x * y)) (WI.of (d - y * y)) = holdsB a b d x y) := psdW_of _ _ _ (less_sm _ _ _ ha hx hx) (less_sm _ _ _ hb hx hy) (less_sm _ _ _ hd hy hy)
  have HA := Lib.hid ha
  have HB := Lib.hid hb
  have HD := Lib.hid hd
  have HX := Lib.hid hx
  have HY := Lib.hid hy
  clear ha hb hd hx hy
  go_enter Tryz.func94, Tryz.ntmps94
  go_wp2_with fail
  go_region_held3 (fun w' => w'.cell? ⟨w.heap.size, 0, none⟩ = some (.int .i64 a) ∧ w'.cell? ⟨w.heap.size, 1, none⟩ = some (.int .i64 b) ∧ w'.cell? ⟨w.heap.size, 2, none⟩ = some (.int .i64 d) ∧
      w'.cell? ⟨w.heap.size + 1, 0, none⟩ = some (.int .i64 x) ∧ w'.cell? ⟨w.heap.size + 1, 1, none⟩ = some (.int .i64 y)) (go_simp)
    (first
      | (go_at_call 137; refine (less_c _ _ _ (by first | exact HA.out | exact HB.out | exact HD.out) (by first | exact HX.out | exact HY.out) (by first | exact HX.out | exact HY.out) _).mono ?_; rintro e w1 ⟨rfl, hb1⟩; have z_w1 := hb1.size; (try simp at z_w1); obtain ⟨y_w1_0_0, c_w1_0_0, f_w1_0_0, r_w1_0_0, t_w1_0_0, p_w1_0_0⟩ := bq hb1 (w.heap.size); obtain ⟨y_w1_0_1, c_w1_0_1, f_w1_0_1, r_w1_0_1, t_w1_0_1, p_w1_0_1⟩ := bq hb1 (w.heap.size + 1))
      | (go_at_call 138; refine (psd_c _ _ _ _).mono ?_; rintro e w2 ⟨rfl, hb2⟩; have z_w2 := hb2.size; (try simp at z_w2); obtain ⟨y_w2_0_0, c_w2_0_0, f_w2_0_0, r_w2_0_0, t_w2_0_0, p_w2_0_0⟩ := bq hb2 (w.heap.size); obtain ⟨y_w2_0_1, c_w2_0_1, f_w2_0_1, r_w2_0_1, t_w2_0_1, p_w2_0_1⟩ := bq hb2 (w.heap.size + 1)))
  go_wp2
  go_ret
  exact ⟨by rw [← E.out]; rfl, below_by⟩
end Go.Proofs.YtnoidlacjiafdaaGreat
namespace Go.Proofs.YtnoidlacjiafdaaGreat

theorem int_sq_nonneg (a : Int) : 0 ≤ a * a := by
  rcases Int.le_total 0 a with h | h
  · exact Int.mul_nonneg h h
  · exact Int.mul_nonneg_of_nonpos_of_nonpos h h
end Go.Proofs.YtnoidlacjiafdaaGreat
namespace Go.Proofs.YtnoidlacjiafdaaGreat

/-- The square form. -/
def form (a b d x y : Int) : Int := a * (x * x) + d * (y * y) + (b * (x * y) + b * (x * y))
end Go.Proofs.YtnoidlacjiafdaaGreat
namespace Go.Proofs.YtnoidlacjiafdaaGreat

end Go.Proofs.YtnoidlacjiafdaaGreat
namespace Go.Proofs.YtnoidlacjiafdaaGreat

/-! ### Quotients up and down -/
/-- A quotient, up. -/
def cdiv (x s : Int) : Int := -((-x).fdiv s)
theorem floor_spec (x s : Int) (hs : 0 < s) : s * x.fdiv s ≤ x ∧ x < s * x.fdiv s + s := by
  rw [Int.fdiv_eq_ediv_of_nonneg _ (by omega)]
  have h1 := Int.mul_ediv_add_emod x s
  have h2 := Int.emod_nonneg x (show s ≠ 0 by omega)
  have h3 := Int.emod_lt_of_pos x hs
  omega
theorem cdiv_spec (x s : Int) (hs : 0 < s) : x ≤ s * cdiv x s ∧ s * cdiv x s < x + s := by
  have h := floor_spec (-x) s hs
  unfold cdiv
  rw [Int.mul_neg]; omega
/-- An ellipse: its centre, its matrix. -/
structure El where
  x : Int
  y : Int
  a : Int
  b : Int
  d : Int
def El.zero : El := ⟨0, 0, 0, 0, 0⟩
def mayPt (x y : Int) : Bool := decide (-4194304 ≤ x ∧ x ≤ 4194304 ∧ -4194304 ≤ y ∧ y ≤ 4194304)
/-- An ellipse that may be. -/
def El.may (e : El) : Bool := mayPt e.x e.y && decide (1 ≤ e.a ∧ e.a ≤ 70368744177664 ∧ 1 ≤ e.d ∧ e.d ≤ 70368744177664 ∧ -70368744177664 ≤ e.b ∧ e.b ≤ 70368744177664) && decide (0 < e.a * e.d - e.b * e.b)
theorem mayPt_iff (x y : Int) : mayPt x y = true ↔ -4194304 ≤ x ∧ x ≤ 4194304 ∧ -4194304 ≤ y ∧ y ≤ 4194304 := by unfold mayPt; simp
theorem El.may_iff (e : El) : e.may = true ↔ (-4194304 ≤ e.x ∧ e.x ≤ 4194304 ∧ -4194304 ≤ e.y ∧ e.y ≤ 4194304) ∧ (1 ≤ e.a ∧ e.a ≤ 70368744177664 ∧ 1 ≤ e.d ∧ e.d ≤ 70368744177664 ∧ -70368744177664 ≤ e.b ∧ e.b ≤ 70368744177664) ∧ 0 < e.a * e.d - e.b * e.b := by
  unfold El.may; rw [Bool.and_eq_true, Bool.and_eq_true, mayPt_iff, decide_eq_true_eq, decide_eq_true_eq, and_assoc]
/-- A point in an ellipse. -/
def El.has (e : El) (p q : Int) : Bool := e.may && decide (-1073741824 ≤ p ∧ p ≤ 1073741824 ∧ -1073741824 ≤ q ∧ q ≤ 1073741824) && holdsB e.a e.b e.d (p - e.x) (q - e.y)
def El.tr (e : El) : Int := if e.may = true then e.a + e.d else 0
def El.rad (e : El) : Int := (up e.tr.toNat : Nat)
/-- The sum of two. -/
def sumEl (e f : El) : El := ⟨e.x + f.x, e.y + f.y, cdiv ((e.rad + f.rad) * e.a) e.rad + cdiv ((e.rad + f.rad) * f.a) f.rad + 2, ((e.rad + f.rad) * e.b).fdiv e.rad + ((e.rad + f.rad) * f.b).fdiv f.rad, cdiv ((e.rad + f.rad) * e.d) e.rad + cdiv ((e.rad + f.rad) * f.d) f.rad + 2⟩
def sumE (e f : El) : El × Int := if e.may = true ∧ f.may = true then (if (sumEl e f).may = true then (sumEl e f, 0) else (El.zero, 2)) else (El.zero, 1)
def ballE (x y r : Int) : El × Int := if mayPt x y = true ∧ 1 ≤ r ∧ r ≤ 4194304 then (⟨x, y, r * r, 0, r * r⟩, 0) else (El.zero, 1)
def growE (e : El) (r : Int) : El × Int := if e.may = true ∧ 0 ≤ r ∧ r ≤ 4194304 then (if r = 0 then (e, 0) else sumE e (ballE 0 0 r).1) else (El.zero, 1)
theorem El.rad_pos (e : El) (h : e.may = true) : 0 < e.rad := by
  have h1 := (El.may_iff e).1 h
  have h2 := up_spec e.tr.toNat
  have h3 : e.tr = e.a + e.d := by unfold El.tr; rw [if_pos h]
  unfold El.rad
  rcases Nat.eq_zero_or_pos (up e.tr.toNat) with h0 | h0
  · rw [h0] at h2; omega
  · omega
/-- The radius reaches as far as the ellipse does. -/
theorem El.rad_sq (e : El) (h : e.may = true) : e.a + e.d ≤ e.rad * e.rad := by
  have h1 := (El.may_iff e).1 h
  have h2 := (up_spec e.tr.toNat).1
  have h3 : e.tr = e.a + e.d := by unfold El.tr; rw [if_pos h]
  unfold El.rad
  rw [← Int.natCast_mul]
  omega
theorem El.rad_le (e : El) : e.rad ≤ 11863284 := by
  have h1 : e.tr ≤ 140737488355328 := by
    unfold El.tr; split
    · rename_i h; have := (El.may_iff e).1 h; omega
    · decide
  have := up_le e.tr.toNat 11863284 (by omega)
  unfold El.rad; omega
/-! ### Growth by a ball, with time -/
theorem sq_bound {z r : Int} (hr : 0 ≤ r) (h : z * z ≤ r * r) : -r ≤ z ∧ z ≤ r := by
  constructor
  · rcases Int.lt_or_le z (-r) with h1 | h1
    · have : (r + 1) * (r + 1) ≤ (-z) * (-z) := Int.mul_le_mul (by omega) (by omega) (by omega) (by omega)
      rw [Int.neg_mul_neg] at this
      have e : (r + 1) * (r + 1) = r * r + 2 * r + 1 := by grind
      omega
    · exact h1
  · rcases Int.lt_or_le r z with h1 | h1
    · have : (r + 1) * (r + 1) ≤ z * z := Int.mul_le_mul (by omega) (by omega) (by omega) (by omega)
      have e : (r + 1) * (r + 1) = r * r + 2 * r + 1 := by grind
      omega
    · exact h1
end Go.Proofs.YtnoidlacjiafdaaGreat
