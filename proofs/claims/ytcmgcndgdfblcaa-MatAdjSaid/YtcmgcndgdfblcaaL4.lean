/- The walk of MatAdj. -/
import Derived.Test.YtcmgcndgdfblcaaL0
import Derived.Test.YtcmgcndgdfblcaaLp
namespace Go.Proofs.Ytcmgcndgdfblcaa
open Go.RowKit

theorem matdet_q (a b d q : Int) (ha : I64 a) (hb : I64 b) (hd : I64 d) (hq : q = a * d - b * b) (w : World) :
    Calls Try.prog 19 #[symV a b d] w fun e w' => e = .returned (.agg (WI.of q).cells) ∧ Below w.heap.size w w' := by
  subst hq; exact matdet_c a b d ha hb hd w
theorem psdB_adj (a b d : Int) : psdB d (-b) a = psdB a b d := by
  unfold psdB
  rw [Int.neg_mul_neg, Int.mul_comm d a, Bool.and_comm (decide (0 ≤ d))]
theorem mayB_adj (a b d : Int) (h : mayB a b d = true) : mayB d (-b) a = true := by
  rw [mayB_iff] at *; omega
theorem adjV_adj (a b d : Int) (h : mayB a b d = true) : adjV d (-b) a = symV a b d := by
  unfold adjV; rw [mayB_adj a b d h, if_pos rfl, Int.neg_neg]
theorem adjV_may (a b d : Int) (h : mayB a b d = true) : adjV a b d = symV d (-b) a := by unfold adjV; rw [h, if_pos rfl]
theorem adjV_not (a b d : Int) (h : mayB a b d = false) : adjV a b d = symV 0 0 0 := by unfold adjV; rw [h]; rfl

set_option maxRecDepth 100000 in
set_option maxHeartbeats 4000000 in
theorem matAdj_not (a b d x y : Int) (hm : mayB a b d = false) (w : World) :
    Calls Try.prog 7 #[symV a b d, ptV x y] w fun e w' => e = .returned (.bool true) ∧ Below w.heap.size w w' := by
  have E := Lib.hid (adjV_not a b d hm)
  go_enter Try.func7, Try.ntmps7
  go_wp2_with fail
  refine (adj_c _ _ _ _).mono ?_; rintro e w1 ⟨rfl, hb1⟩; rw [E.out]; have z_w1 := hb1.size; (try simp at z_w1); obtain ⟨y_w1_0_0, c_w1_0_0, f_w1_0_0, r_w1_0_0, t_w1_0_0, p_w1_0_0⟩ := bk hb1 (w.heap.size) (by first | omega | (simp; done) | (simp; omega) | fail); obtain ⟨y_w1_0_1, c_w1_0_1, f_w1_0_1, r_w1_0_1, t_w1_0_1, p_w1_0_1⟩ := bk hb1 (w.heap.size + 1) (by first | omega | (simp; done) | (simp; omega) | fail)
  go_wp2_with fail
  refine (may_c _ _ _ _).mono ?_; rintro e w2 ⟨rfl, hb2⟩; rw [hm]; have z_w2 := hb2.size; (try simp at z_w2); obtain ⟨y_w2_0_0, c_w2_0_0, f_w2_0_0, r_w2_0_0, t_w2_0_0, p_w2_0_0⟩ := bk hb2 (w.heap.size) (by first | omega | (simp; done) | (simp; omega) | fail); obtain ⟨y_w2_0_1, c_w2_0_1, f_w2_0_1, r_w2_0_1, t_w2_0_1, p_w2_0_1⟩ := bk hb2 (w.heap.size + 1) (by first | omega | (simp; done) | (simp; omega) | fail); obtain ⟨y_w2_1_0, c_w2_1_0, f_w2_1_0, r_w2_1_0, t_w2_1_0, p_w2_1_0⟩ := bk hb2 (w1.heap.size) (by first | omega | (simp; done) | (simp; omega) | fail)
  go_wp2_with fail
  refine (awake_c _).mono ?_; rintro e w3 ⟨rfl, hb3⟩; have z_w3 := hb3.size; (try simp at z_w3); obtain ⟨y_w3_0_0, c_w3_0_0, f_w3_0_0, r_w3_0_0, t_w3_0_0, p_w3_0_0⟩ := bk hb3 (w.heap.size) (by first | omega | (simp; done) | (simp; omega) | fail); obtain ⟨y_w3_0_1, c_w3_0_1, f_w3_0_1, r_w3_0_1, t_w3_0_1, p_w3_0_1⟩ := bk hb3 (w.heap.size + 1) (by first | omega | (simp; done) | (simp; omega) | fail); obtain ⟨y_w3_1_0, c_w3_1_0, f_w3_1_0, r_w3_1_0, t_w3_1_0, p_w3_1_0⟩ := bk hb3 (w1.heap.size) (by first | omega | (simp; done) | (simp; omega) | fail)
  go_wp2
  go_ret
  exact ⟨rfl, (by repeat (first | exact Below.refl _ _ | exact Below_of_hid (by assumption) | refine Below.drew ?_ | refine below_drewN ?_ _ | refine Below_putRow ?_ (by first | omega | (simp; done) | (simp; omega) | fail) _ _ | refine Below.alloc ?_ (by first | omega | (simp; done) | (simp; omega) | fail) _ | refine Below.setCell ?_ (by first | omega | (simp; done) | (simp; omega) | fail) _ | refine Below.trans ?_ (Below.mono (by assumption) (by first | omega | (simp; done) | (simp; omega) | fail))))⟩

set_option maxRecDepth 100000 in
set_option maxHeartbeats 4000000 in
theorem matAdj_may (a b d x y : Int) (hm : mayB a b d = true) (w : World) :
    Calls Try.prog 7 #[symV a b d, ptV x y] w fun e w' => e = .returned (.bool true) ∧ Below w.heap.size w w' := by
  have M := (mayB_iff a b d).1 hm
  have HA : Hid (I64 a) := show I64 a from ⟨by omega, by omega⟩
  have HB : Hid (I64 b) := show I64 b from ⟨by omega, by omega⟩
  have HD : Hid (I64 d) := show I64 d from ⟨by omega, by omega⟩
  have HNB : Hid (I64 (-b)) := show I64 (-b) from ⟨by omega, by omega⟩
  obtain ⟨q, Q1⟩ : ∃ q, Hid (q = a * d - b * b) := ⟨_, rfl⟩
  have Q2 : Hid (q = d * a - -b * -b) := by show q = _; rw [Q1.out, Int.neg_mul_neg, Int.mul_comm a d]
  have E := Lib.hid (adjV_may a b d hm)
  have E2 := Lib.hid (adjV_adj a b d hm)
  have E3 := Lib.hid (psdB_adj a b d)
  clear M
  go_enter Try.func7, Try.ntmps7
  go_wp2_with fail
  refine (adj_c _ _ _ _).mono ?_; rintro e w1 ⟨rfl, hb1⟩; rw [E.out]; have z_w1 := hb1.size; (try simp at z_w1); obtain ⟨y_w1_0_0, c_w1_0_0, f_w1_0_0, r_w1_0_0, t_w1_0_0, p_w1_0_0⟩ := bk hb1 (w.heap.size) (by first | omega | (simp; done) | (simp; omega) | fail); obtain ⟨y_w1_0_1, c_w1_0_1, f_w1_0_1, r_w1_0_1, t_w1_0_1, p_w1_0_1⟩ := bk hb1 (w.heap.size + 1) (by first | omega | (simp; done) | (simp; omega) | fail)
  go_wp2_with fail
  refine (may_c _ _ _ _).mono ?_; rintro e w2 ⟨rfl, hb2⟩; rw [hm]; have z_w2 := hb2.size; (try simp at z_w2); obtain ⟨y_w2_0_0, c_w2_0_0, f_w2_0_0, r_w2_0_0, t_w2_0_0, p_w2_0_0⟩ := bk hb2 (w.heap.size) (by first | omega | (simp; done) | (simp; omega) | fail); obtain ⟨y_w2_0_1, c_w2_0_1, f_w2_0_1, r_w2_0_1, t_w2_0_1, p_w2_0_1⟩ := bk hb2 (w.heap.size + 1) (by first | omega | (simp; done) | (simp; omega) | fail); obtain ⟨y_w2_1_0, c_w2_1_0, f_w2_1_0, r_w2_1_0, t_w2_1_0, p_w2_1_0⟩ := bk hb2 (w1.heap.size) (by first | omega | (simp; done) | (simp; omega) | fail)
  go_wp2_with fail
  go_region_held3 (fun w' => w'.cell? ⟨w.heap.size, 0, none⟩ = some (.int .i64 a) ∧ w'.cell? ⟨w.heap.size, 1, none⟩ = some (.int .i64 b) ∧ w'.cell? ⟨w.heap.size, 2, none⟩ = some (.int .i64 d) ∧
      w'.cell? ⟨w1.heap.size, 0, none⟩ = some (.int .i64 d) ∧ w'.cell? ⟨w1.heap.size, 1, none⟩ = some (.int .i64 (-b)) ∧ w'.cell? ⟨w1.heap.size, 2, none⟩ = some (.int .i64 a)) (go_simp)
    (first
      | (go_at_call 19; refine (matdet_q _ _ _ q (by first | exact HA.out | exact HD.out) (by first | exact HB.out | exact HNB.out) (by first | exact HD.out | exact HA.out) (by first | exact Q1.out | exact Q2.out) _).mono ?_; rintro e w3 ⟨rfl, hb3⟩; have z_w3 := hb3.size; (try simp at z_w3); obtain ⟨y_w3_0_0, c_w3_0_0, f_w3_0_0, r_w3_0_0, t_w3_0_0, p_w3_0_0⟩ := bk hb3 (w.heap.size) (by first | omega | (simp; done) | (simp; omega) | fail); obtain ⟨y_w3_0_1, c_w3_0_1, f_w3_0_1, r_w3_0_1, t_w3_0_1, p_w3_0_1⟩ := bk hb3 (w.heap.size + 1) (by first | omega | (simp; done) | (simp; omega) | fail); obtain ⟨y_w3_1_0, c_w3_1_0, f_w3_1_0, r_w3_1_0, t_w3_1_0, p_w3_1_0⟩ := bk hb3 (w1.heap.size) (by first | omega | (simp; done) | (simp; omega) | fail))
      | (go_at_call 15; refine (text_I _ _).mono ?_; rintro e w4 ⟨rfl, hb4⟩; have z_w4 := hb4.size; (try simp at z_w4); obtain ⟨y_w4_0_0, c_w4_0_0, f_w4_0_0, r_w4_0_0, t_w4_0_0, p_w4_0_0⟩ := bk hb4 (w.heap.size) (by first | omega | (simp; done) | (simp; omega) | fail); obtain ⟨y_w4_0_1, c_w4_0_1, f_w4_0_1, r_w4_0_1, t_w4_0_1, p_w4_0_1⟩ := bk hb4 (w.heap.size + 1) (by first | omega | (simp; done) | (simp; omega) | fail); obtain ⟨y_w4_1_0, c_w4_1_0, f_w4_1_0, r_w4_1_0, t_w4_1_0, p_w4_1_0⟩ := bk hb4 (w1.heap.size) (by first | omega | (simp; done) | (simp; omega) | fail))
      | (go_at_call 18; refine (adj_c _ _ _ _).mono ?_; rintro e w5 ⟨rfl, hb5⟩; rw [E2.out]; have z_w5 := hb5.size; (try simp at z_w5); obtain ⟨y_w5_0_0, c_w5_0_0, f_w5_0_0, r_w5_0_0, t_w5_0_0, p_w5_0_0⟩ := bk hb5 (w.heap.size) (by first | omega | (simp; done) | (simp; omega) | fail); obtain ⟨y_w5_0_1, c_w5_0_1, f_w5_0_1, r_w5_0_1, t_w5_0_1, p_w5_0_1⟩ := bk hb5 (w.heap.size + 1) (by first | omega | (simp; done) | (simp; omega) | fail); obtain ⟨y_w5_1_0, c_w5_1_0, f_w5_1_0, r_w5_1_0, t_w5_1_0, p_w5_1_0⟩ := bk hb5 (w1.heap.size) (by first | omega | (simp; done) | (simp; omega) | fail))
      | (go_at_call 16; refine (matpsd_c _ _ _ (by first | exact HA.out | exact HD.out) (by first | exact HB.out | exact HNB.out) (by first | exact HD.out | exact HA.out) _).mono ?_; rintro e w6 ⟨rfl, hb6⟩; (try rw [E3.out]); have z_w6 := hb6.size; (try simp at z_w6); obtain ⟨y_w6_0_0, c_w6_0_0, f_w6_0_0, r_w6_0_0, t_w6_0_0, p_w6_0_0⟩ := bk hb6 (w.heap.size) (by first | omega | (simp; done) | (simp; omega) | fail); obtain ⟨y_w6_0_1, c_w6_0_1, f_w6_0_1, r_w6_0_1, t_w6_0_1, p_w6_0_1⟩ := bk hb6 (w.heap.size + 1) (by first | omega | (simp; done) | (simp; omega) | fail); obtain ⟨y_w6_1_0, c_w6_1_0, f_w6_1_0, r_w6_1_0, t_w6_1_0, p_w6_1_0⟩ := bk hb6 (w1.heap.size) (by first | omega | (simp; done) | (simp; omega) | fail))
      | (go_at_call 11; refine (awake_c _).mono ?_; rintro e w7 ⟨rfl, hb7⟩; have z_w7 := hb7.size; (try simp at z_w7); obtain ⟨y_w7_0_0, c_w7_0_0, f_w7_0_0, r_w7_0_0, t_w7_0_0, p_w7_0_0⟩ := bk hb7 (w.heap.size) (by first | omega | (simp; done) | (simp; omega) | fail); obtain ⟨y_w7_0_1, c_w7_0_1, f_w7_0_1, r_w7_0_1, t_w7_0_1, p_w7_0_1⟩ := bk hb7 (w.heap.size + 1) (by first | omega | (simp; done) | (simp; omega) | fail); obtain ⟨y_w7_1_0, c_w7_1_0, f_w7_1_0, r_w7_1_0, t_w7_1_0, p_w7_1_0⟩ := bk hb7 (w1.heap.size) (by first | omega | (simp; done) | (simp; omega) | fail)))
  all_goals go_wp2
  all_goals go_ret
  all_goals exact ⟨rfl, (by repeat (first | exact Below.refl _ _ | exact Below_of_hid (by assumption) | refine Below.drew ?_ | refine below_drewN ?_ _ | refine Below_putRow ?_ (by first | omega | (simp; done) | (simp; omega) | fail) _ _ | refine Below.alloc ?_ (by first | omega | (simp; done) | (simp; omega) | fail) _ | refine Below.setCell ?_ (by first | omega | (simp; done) | (simp; omega) | fail) _ | refine Below.trans ?_ (Below.mono (by assumption) (by first | omega | (simp; done) | (simp; omega) | fail))))⟩

theorem matAdj_c (a b d x y : Int) (w : World) :
    Calls Try.prog 7 #[symV a b d, ptV x y] w fun e w' => e = .returned (.bool true) ∧ Below w.heap.size w w' := by
  cases hm : mayB a b d with
  | true => exact matAdj_may a b d x y hm w
  | false => exact matAdj_not a b d x y hm w
end Go.Proofs.Ytcmgcndgdfblcaa
