/- The walks of package mat: times, det, psd, Det, Quad, Psd, Least, Holds. -/
import Derived.Test.YtfohihjeemmedaaM2
import Derived.Test.YtfohihjeemmedaaW6
import Derived.Test.YtfohihjeemmedaaWi
namespace Go.Proofs.Ytfohihjeemmedaa
open Go.RowKit

set_option maxHeartbeats 400000 in
theorem times_c (a b : Int) (ha : I64 a) (hb : I64 b) (w : World) :
    Calls Try.prog 54 #[.int .i64 a, .int .i64 b] w fun e w' => e = .returned (.agg (WI.of (a * b)).cells) ∧ Below w.heap.size w w' := by
  have E := Lib.hid (WI.of_mul (Sm.lim (Sm.of64 ha.1 ha.2) (by decide)) (Sm.lim (Sm.of64 hb.1 hb.2) (by decide)))
  have HA := Lib.hid ha
  have HB := Lib.hid hb
  clear ha hb
  go_enter Try.func54, Try.ntmps54
  go_wp2_with fail
  refine (of_c _ HA.out.1 HA.out.2 _).mono ?_; rintro e w1 ⟨rfl, hb1⟩; have z_w1 := hb1.size; (try simp at z_w1); obtain ⟨y_w1_0_0, c_w1_0_0, f_w1_0_0, r_w1_0_0, t_w1_0_0, p_w1_0_0⟩ := bk hb1 (w.heap.size) (by first | omega | (simp; done) | (simp; omega) | fail)
  go_wp2_with fail
  refine (of_c _ HB.out.1 HB.out.2 _).mono ?_; rintro e w2 ⟨rfl, hb2⟩; have z_w2 := hb2.size; (try simp at z_w2); obtain ⟨y_w2_0_0, c_w2_0_0, f_w2_0_0, r_w2_0_0, t_w2_0_0, p_w2_0_0⟩ := bk hb2 (w.heap.size) (by first | omega | (simp; done) | (simp; omega) | fail)
  go_wp2_with fail
  refine (mul_I _ _ _).mono ?_; rintro e w3 ⟨rfl, hb3⟩; have z_w3 := hb3.size; (try simp at z_w3); obtain ⟨y_w3_0_0, c_w3_0_0, f_w3_0_0, r_w3_0_0, t_w3_0_0, p_w3_0_0⟩ := bk hb3 (w.heap.size) (by first | omega | (simp; done) | (simp; omega) | fail)
  go_wp2
  exact bodyPost_row 18 ((WI.of a).mul (WI.of b)).cells rfl rfl rfl Try.underlying68 rfl info_Int (by go_simp) ⟨by rw [E.out], (by repeat (first | exact Below.refl _ _ | exact Below_of_hid (by assumption) | refine Below.drew ?_ | refine below_drewN ?_ _ | refine Below_putRow ?_ (by first | omega | (simp; done) | (simp; omega) | fail) _ _ | refine Below.alloc ?_ (by first | omega | (simp; done) | (simp; omega) | fail) _ | refine Below.setCell ?_ (by first | omega | (simp; done) | (simp; omega) | fail) _ | refine Below.trans ?_ (Below.mono (by assumption) (by first | omega | (simp; done) | (simp; omega) | fail))))⟩

set_option maxRecDepth 100000 in
set_option maxHeartbeats 1000000 in
theorem det_c (x y z : WI) (w : World) :
    Calls Try.prog 50 #[.agg x.cells, .agg y.cells, .agg z.cells] w fun e w' => e = .returned (.agg ((x.mul z).sub (y.mul y)).cells) ∧ Below w.heap.size w w' := by
  go_enter Try.func50, Try.ntmps50
  go_wp2_with fail
  go_region_held3 (fun w' => w'.row? w.heap.size 0 18 = some x.cells ∧ w'.row? (w.heap.size + 1) 0 18 = some y.cells ∧ w'.row? (w.heap.size + 1 + 1) 0 18 = some z.cells) (go_simp)
    (first
      | (go_at_call 67; refine (mul_I _ _ _).mono ?_; rintro e w1 ⟨rfl, hb1⟩; have z_w1 := hb1.size; (try simp at z_w1); obtain ⟨y_w1_0_0, c_w1_0_0, f_w1_0_0, r_w1_0_0, t_w1_0_0, p_w1_0_0⟩ := bk hb1 (w.heap.size) (by first | omega | (simp; done) | (simp; omega) | fail); obtain ⟨y_w1_0_1, c_w1_0_1, f_w1_0_1, r_w1_0_1, t_w1_0_1, p_w1_0_1⟩ := bk hb1 (w.heap.size + 1) (by first | omega | (simp; done) | (simp; omega) | fail); obtain ⟨y_w1_0_2, c_w1_0_2, f_w1_0_2, r_w1_0_2, t_w1_0_2, p_w1_0_2⟩ := bk hb1 (w.heap.size + 1 + 1) (by first | omega | (simp; done) | (simp; omega) | fail); obtain ⟨y_w1_0_3, c_w1_0_3, f_w1_0_3, r_w1_0_3, t_w1_0_3, p_w1_0_3⟩ := bk hb1 (w.heap.size + 1 + 1 + 1) (by first | omega | (simp; done) | (simp; omega) | fail))
      | (go_at_call 53; refine (sub_I _ _ _).mono ?_; rintro e w2 ⟨rfl, hb2⟩; have z_w2 := hb2.size; (try simp at z_w2); obtain ⟨y_w2_0_0, c_w2_0_0, f_w2_0_0, r_w2_0_0, t_w2_0_0, p_w2_0_0⟩ := bk hb2 (w.heap.size) (by first | omega | (simp; done) | (simp; omega) | fail); obtain ⟨y_w2_0_1, c_w2_0_1, f_w2_0_1, r_w2_0_1, t_w2_0_1, p_w2_0_1⟩ := bk hb2 (w.heap.size + 1) (by first | omega | (simp; done) | (simp; omega) | fail); obtain ⟨y_w2_0_2, c_w2_0_2, f_w2_0_2, r_w2_0_2, t_w2_0_2, p_w2_0_2⟩ := bk hb2 (w.heap.size + 1 + 1) (by first | omega | (simp; done) | (simp; omega) | fail); obtain ⟨y_w2_0_3, c_w2_0_3, f_w2_0_3, r_w2_0_3, t_w2_0_3, p_w2_0_3⟩ := bk hb2 (w.heap.size + 1 + 1 + 1) (by first | omega | (simp; done) | (simp; omega) | fail)))
  go_wp2
  exact bodyPost_row 18 ((x.mul z).sub (y.mul y)).cells rfl rfl rfl Try.underlying68 rfl info_Int (by go_simp) ⟨rfl, (by repeat (first | exact Below.refl _ _ | exact Below_of_hid (by assumption) | refine Below.drew ?_ | refine below_drewN ?_ _ | refine Below_putRow ?_ (by first | omega | (simp; done) | (simp; omega) | fail) _ _ | refine Below.alloc ?_ (by first | omega | (simp; done) | (simp; omega) | fail) _ | refine Below.setCell ?_ (by first | omega | (simp; done) | (simp; omega) | fail) _ | refine Below.trans ?_ (Below.mono (by assumption) (by first | omega | (simp; done) | (simp; omega) | fail))))⟩

/-- mat.psd. -/
def psdW (x y z : WI) : Bool := decide (0 ≤ x.sign) && decide (0 ≤ z.sign) && decide (0 ≤ ((x.mul z).sub (y.mul y)).sign)
set_option maxRecDepth 100000 in
set_option maxHeartbeats 1000000 in
theorem psd_c (x y z : WI) (w : World) :
    Calls Try.prog 55 #[.agg x.cells, .agg y.cells, .agg z.cells] w fun e w' => e = .returned (.bool (psdW x y z)) ∧ Below w.heap.size w w' := by
  have E : Hid (psdW x y z = (decide (0 ≤ x.sign) && decide (0 ≤ z.sign) && decide (0 ≤ ((x.mul z).sub (y.mul y)).sign))) := rfl
  by_cases h1 : 0 ≤ x.sign
  · by_cases h2 : 0 ≤ z.sign
    · go_enter Try.func55, Try.ntmps55
      go_wp2_with fail
      refine (sign_I _ _).mono ?_; rintro e w1 ⟨rfl, hb1⟩; have z_w1 := hb1.size; (try simp at z_w1); obtain ⟨y_w1_0_0, c_w1_0_0, f_w1_0_0, r_w1_0_0, t_w1_0_0, p_w1_0_0⟩ := bk hb1 (w.heap.size) (by first | omega | (simp; done) | (simp; omega) | fail); obtain ⟨y_w1_0_1, c_w1_0_1, f_w1_0_1, r_w1_0_1, t_w1_0_1, p_w1_0_1⟩ := bk hb1 (w.heap.size + 1) (by first | omega | (simp; done) | (simp; omega) | fail); obtain ⟨y_w1_0_2, c_w1_0_2, f_w1_0_2, r_w1_0_2, t_w1_0_2, p_w1_0_2⟩ := bk hb1 (w.heap.size + 1 + 1) (by first | omega | (simp; done) | (simp; omega) | fail)
      go_wp2_with fail
      refine (sign_I _ _).mono ?_; rintro e w2 ⟨rfl, hb2⟩; have z_w2 := hb2.size; (try simp at z_w2); obtain ⟨y_w2_0_0, c_w2_0_0, f_w2_0_0, r_w2_0_0, t_w2_0_0, p_w2_0_0⟩ := bk hb2 (w.heap.size) (by first | omega | (simp; done) | (simp; omega) | fail); obtain ⟨y_w2_0_1, c_w2_0_1, f_w2_0_1, r_w2_0_1, t_w2_0_1, p_w2_0_1⟩ := bk hb2 (w.heap.size + 1) (by first | omega | (simp; done) | (simp; omega) | fail); obtain ⟨y_w2_0_2, c_w2_0_2, f_w2_0_2, r_w2_0_2, t_w2_0_2, p_w2_0_2⟩ := bk hb2 (w.heap.size + 1 + 1) (by first | omega | (simp; done) | (simp; omega) | fail)
      go_wp2_with fail
      refine (det_c _ _ _ _).mono ?_; rintro e w3 ⟨rfl, hb3⟩; have z_w3 := hb3.size; (try simp at z_w3); obtain ⟨y_w3_0_0, c_w3_0_0, f_w3_0_0, r_w3_0_0, t_w3_0_0, p_w3_0_0⟩ := bk hb3 (w.heap.size) (by first | omega | (simp; done) | (simp; omega) | fail); obtain ⟨y_w3_0_1, c_w3_0_1, f_w3_0_1, r_w3_0_1, t_w3_0_1, p_w3_0_1⟩ := bk hb3 (w.heap.size + 1) (by first | omega | (simp; done) | (simp; omega) | fail); obtain ⟨y_w3_0_2, c_w3_0_2, f_w3_0_2, r_w3_0_2, t_w3_0_2, p_w3_0_2⟩ := bk hb3 (w.heap.size + 1 + 1) (by first | omega | (simp; done) | (simp; omega) | fail)
      go_wp2_with fail
      refine (sign_I _ _).mono ?_; rintro e w4 ⟨rfl, hb4⟩; have z_w4 := hb4.size; (try simp at z_w4); obtain ⟨y_w4_0_0, c_w4_0_0, f_w4_0_0, r_w4_0_0, t_w4_0_0, p_w4_0_0⟩ := bk hb4 (w.heap.size) (by first | omega | (simp; done) | (simp; omega) | fail); obtain ⟨y_w4_0_1, c_w4_0_1, f_w4_0_1, r_w4_0_1, t_w4_0_1, p_w4_0_1⟩ := bk hb4 (w.heap.size + 1) (by first | omega | (simp; done) | (simp; omega) | fail); obtain ⟨y_w4_0_2, c_w4_0_2, f_w4_0_2, r_w4_0_2, t_w4_0_2, p_w4_0_2⟩ := bk hb4 (w.heap.size + 1 + 1) (by first | omega | (simp; done) | (simp; omega) | fail)
      go_wp2
      go_ret
      exact ⟨by rw [E.out, decide_eq_true (show 0 ≤ x.sign by omega), decide_eq_true (show 0 ≤ z.sign by omega)]; simp, (by repeat (first | exact Below.refl _ _ | exact Below_of_hid (by assumption) | refine Below.drew ?_ | refine below_drewN ?_ _ | refine Below_putRow ?_ (by first | omega | (simp; done) | (simp; omega) | fail) _ _ | refine Below.alloc ?_ (by first | omega | (simp; done) | (simp; omega) | fail) _ | refine Below.setCell ?_ (by first | omega | (simp; done) | (simp; omega) | fail) _ | refine Below.trans ?_ (Below.mono (by assumption) (by first | omega | (simp; done) | (simp; omega) | fail))))⟩
    · go_enter Try.func55, Try.ntmps55
      go_wp2_with fail
      refine (sign_I _ _).mono ?_; rintro e w1 ⟨rfl, hb1⟩; have z_w1 := hb1.size; (try simp at z_w1); obtain ⟨y_w1_0_0, c_w1_0_0, f_w1_0_0, r_w1_0_0, t_w1_0_0, p_w1_0_0⟩ := bk hb1 (w.heap.size) (by first | omega | (simp; done) | (simp; omega) | fail); obtain ⟨y_w1_0_1, c_w1_0_1, f_w1_0_1, r_w1_0_1, t_w1_0_1, p_w1_0_1⟩ := bk hb1 (w.heap.size + 1) (by first | omega | (simp; done) | (simp; omega) | fail); obtain ⟨y_w1_0_2, c_w1_0_2, f_w1_0_2, r_w1_0_2, t_w1_0_2, p_w1_0_2⟩ := bk hb1 (w.heap.size + 1 + 1) (by first | omega | (simp; done) | (simp; omega) | fail)
      go_wp2_with fail
      refine (sign_I _ _).mono ?_; rintro e w2 ⟨rfl, hb2⟩; have z_w2 := hb2.size; (try simp at z_w2); obtain ⟨y_w2_0_0, c_w2_0_0, f_w2_0_0, r_w2_0_0, t_w2_0_0, p_w2_0_0⟩ := bk hb2 (w.heap.size) (by first | omega | (simp; done) | (simp; omega) | fail); obtain ⟨y_w2_0_1, c_w2_0_1, f_w2_0_1, r_w2_0_1, t_w2_0_1, p_w2_0_1⟩ := bk hb2 (w.heap.size + 1) (by first | omega | (simp; done) | (simp; omega) | fail); obtain ⟨y_w2_0_2, c_w2_0_2, f_w2_0_2, r_w2_0_2, t_w2_0_2, p_w2_0_2⟩ := bk hb2 (w.heap.size + 1 + 1) (by first | omega | (simp; done) | (simp; omega) | fail)
      go_wp2
      go_ret
      exact ⟨by rw [E.out, decide_eq_false (show ¬ 0 ≤ z.sign by omega)]; simp, (by repeat (first | exact Below.refl _ _ | exact Below_of_hid (by assumption) | refine Below.drew ?_ | refine below_drewN ?_ _ | refine Below_putRow ?_ (by first | omega | (simp; done) | (simp; omega) | fail) _ _ | refine Below.alloc ?_ (by first | omega | (simp; done) | (simp; omega) | fail) _ | refine Below.setCell ?_ (by first | omega | (simp; done) | (simp; omega) | fail) _ | refine Below.trans ?_ (Below.mono (by assumption) (by first | omega | (simp; done) | (simp; omega) | fail))))⟩
  · go_enter Try.func55, Try.ntmps55
    go_wp2_with fail
    refine (sign_I _ _).mono ?_; rintro e w1 ⟨rfl, hb1⟩; have z_w1 := hb1.size; (try simp at z_w1); obtain ⟨y_w1_0_0, c_w1_0_0, f_w1_0_0, r_w1_0_0, t_w1_0_0, p_w1_0_0⟩ := bk hb1 (w.heap.size) (by first | omega | (simp; done) | (simp; omega) | fail); obtain ⟨y_w1_0_1, c_w1_0_1, f_w1_0_1, r_w1_0_1, t_w1_0_1, p_w1_0_1⟩ := bk hb1 (w.heap.size + 1) (by first | omega | (simp; done) | (simp; omega) | fail); obtain ⟨y_w1_0_2, c_w1_0_2, f_w1_0_2, r_w1_0_2, t_w1_0_2, p_w1_0_2⟩ := bk hb1 (w.heap.size + 1 + 1) (by first | omega | (simp; done) | (simp; omega) | fail)
    go_wp2
    go_ret
    exact ⟨by rw [E.out, decide_eq_false (show ¬ 0 ≤ x.sign by omega)]; simp, (by repeat (first | exact Below.refl _ _ | exact Below_of_hid (by assumption) | refine Below.drew ?_ | refine below_drewN ?_ _ | refine Below_putRow ?_ (by first | omega | (simp; done) | (simp; omega) | fail) _ _ | refine Below.alloc ?_ (by first | omega | (simp; done) | (simp; omega) | fail) _ | refine Below.setCell ?_ (by first | omega | (simp; done) | (simp; omega) | fail) _ | refine Below.trans ?_ (Below.mono (by assumption) (by first | omega | (simp; done) | (simp; omega) | fail))))⟩
theorem of_both (a b d : Int) (ha : Sm 127 a) (hb : Sm 127 b) (hd : Sm 127 d) : ((WI.of a).mul (WI.of d)).sub ((WI.of b).mul (WI.of b)) = WI.of (a * d - b * b) := by
  rw [WI.of_mul (ha.lim (by decide)) (hd.lim (by decide)), WI.of_mul (hb.lim (by decide)) (hb.lim (by decide)), WI.of_sub ((ha.mul hd).lim (by decide)) ((hb.mul hb).lim (by decide))]
/-- A B, B D is positive semidefinite. -/
def psdB (a b d : Int) : Bool := decide (0 ≤ a) && decide (0 ≤ d) && decide (0 ≤ a * d - b * b)
theorem psdW_of (a b d : Int) (ha : Sm 127 a) (hb : Sm 127 b) (hd : Sm 127 d) : psdW (WI.of a) (WI.of b) (WI.of d) = psdB a b d := by
  unfold psdW psdB
  rw [of_both a b d ha hb hd, WI.of_sign (ha.lim (by decide)), WI.of_sign (hd.lim (by decide)), WI.of_sign (((ha.mul hd).sub (hb.mul hb)).lim (by decide))]
  simp only [Int.sign_nonneg_iff]
theorem I64.sm {a : Int} (h : I64 a) : Sm 127 a := (Sm.of64 h.1 h.2).mono (by decide)

set_option maxRecDepth 100000 in
set_option maxHeartbeats 1000000 in
theorem matdet_c (a b d : Int) (ha : I64 a) (hb : I64 b) (hd : I64 d) (w : World) :
    Calls Try.prog 33 #[symV a b d] w fun e w' => e = .returned (.agg (WI.of (a * d - b * b)).cells) ∧ Below w.heap.size w w' := by
  have E := Lib.hid (of_both a b d ha.sm hb.sm hd.sm)
  have HA := Lib.hid ha
  have HB := Lib.hid hb
  have HD := Lib.hid hd
  clear ha hb hd
  go_enter Try.func33, Try.ntmps33
  go_wp2_with fail
  go_region_held3 (fun w' => w'.cell? ⟨w.heap.size, 0, none⟩ = some (.int .i64 a) ∧ w'.cell? ⟨w.heap.size, 1, none⟩ = some (.int .i64 b) ∧ w'.cell? ⟨w.heap.size, 2, none⟩ = some (.int .i64 d)) (go_simp)
    (first
      | (go_at_call 51; refine (of_c _ (by first | exact HA.out.1 | exact HB.out.1 | exact HD.out.1) (by first | exact HA.out.2 | exact HB.out.2 | exact HD.out.2) _).mono ?_; rintro e w1 ⟨rfl, hb1⟩; have z_w1 := hb1.size; (try simp at z_w1); obtain ⟨y_w1_0_0, c_w1_0_0, f_w1_0_0, r_w1_0_0, t_w1_0_0, p_w1_0_0⟩ := bk hb1 (w.heap.size) (by first | omega | (simp; done) | (simp; omega) | fail); obtain ⟨y_w1_0_1, c_w1_0_1, f_w1_0_1, r_w1_0_1, t_w1_0_1, p_w1_0_1⟩ := bk hb1 (w.heap.size + 1) (by first | omega | (simp; done) | (simp; omega) | fail))
      | (go_at_call 50; refine (det_c _ _ _ _).mono ?_; rintro e w2 ⟨rfl, hb2⟩; have z_w2 := hb2.size; (try simp at z_w2); obtain ⟨y_w2_0_0, c_w2_0_0, f_w2_0_0, r_w2_0_0, t_w2_0_0, p_w2_0_0⟩ := bk hb2 (w.heap.size) (by first | omega | (simp; done) | (simp; omega) | fail); obtain ⟨y_w2_0_1, c_w2_0_1, f_w2_0_1, r_w2_0_1, t_w2_0_1, p_w2_0_1⟩ := bk hb2 (w.heap.size + 1) (by first | omega | (simp; done) | (simp; omega) | fail)))
  go_wp2
  exact bodyPost_row 18 (((WI.of a).mul (WI.of d)).sub ((WI.of b).mul (WI.of b))).cells rfl rfl rfl Try.underlying68 rfl info_Int (by go_simp) ⟨by rw [E.out], (by repeat (first | exact Below.refl _ _ | exact Below_of_hid (by assumption) | refine Below.drew ?_ | refine below_drewN ?_ _ | refine Below_putRow ?_ (by first | omega | (simp; done) | (simp; omega) | fail) _ _ | refine Below.alloc ?_ (by first | omega | (simp; done) | (simp; omega) | fail) _ | refine Below.setCell ?_ (by first | omega | (simp; done) | (simp; omega) | fail) _ | refine Below.trans ?_ (Below.mono (by assumption) (by first | omega | (simp; done) | (simp; omega) | fail))))⟩

end Go.Proofs.Ytfohihjeemmedaa
