/- The walk of grow.Sum: the whole. -/
import Derived.Test.YtfohihjeemmedaaE3
import Derived.Deep.Cut
namespace Go.Proofs.Ytfohihjeemmedaa
open Go.RowKit

set_option maxRecDepth 100000 in
set_option maxHeartbeats 4000000 in
theorem sum_main (x y a b d x' y' a' b' d' : Int) (he : El.may ⟨x, y, a, b, d⟩ = true) (hf : El.may ⟨x', y', a', b', d'⟩ = true) (w : World) :
    Calls Try.prog 56 #[elC x y a b d, elC x' y' a' b' d'] w fun r w' =>
      r = .returned (.tuple #[elV (sumE ⟨x, y, a, b, d⟩ ⟨x', y', a', b', d'⟩).1, .int .i64 (sumE ⟨x, y, a, b, d⟩ ⟨x', y', a', b', d'⟩).2]) ∧ Below w.heap.size w w' := by
  have HE := Lib.hid he
  have HF := Lib.hid hf
  obtain ⟨s, hs⟩ : ∃ s, s = El.rad ⟨x, y, a, b, d⟩ := ⟨_, rfl⟩
  obtain ⟨t, ht⟩ : ∃ t, t = El.rad ⟨x', y', a', b', d'⟩ := ⟨_, rfl⟩
  have HS := Lib.hid hs.symm
  have HT := Lib.hid ht.symm
  have me := (El.may_iff _).1 he
  have mf := (El.may_iff _).1 hf
  have re := El.rad_sq _ he
  have rf := El.rad_sq _ hf
  have qe := El.b_sq _ he
  have qf := El.b_sq _ hf
  have so := (sumOk _ _ he hf).hs
  simp only [← hs, ← ht] at me mf re rf qe qf so
  obtain ⟨A, hA⟩ : ∃ A, A = cdiv ((s + t) * a) s + cdiv ((s + t) * a') t := ⟨_, rfl⟩
  obtain ⟨D, hD⟩ : ∃ D, D = cdiv ((s + t) * d) s + cdiv ((s + t) * d') t := ⟨_, rfl⟩
  obtain ⟨B, hB⟩ : ∃ B, B = ((s + t) * b).fdiv s + ((s + t) * b').fdiv t := ⟨_, rfl⟩
  have PA : Hid (∀ w g6 g7 g8, w.cell? ⟨g6, 0, none⟩ = some (.int .i64 s) → w.cell? ⟨g7, 0, none⟩ = some (.int .i64 t) → w.heap[g8]? = some (.cells #[.int .i64 0] 28 (0, 0)) →
      Calls Try.prog 70 #[.func (.func 71) #[] #[], .int .i64 a, .int .i64 a', .pointer (some ⟨g6, 0, none⟩), .pointer (some ⟨g7, 0, none⟩), .pointer (some ⟨g8, 0, none⟩)] w fun e w' => e = .returned (.int .i64 A) ∧ Below w.heap.size w w') :=
    fun w g6 g7 g8 h6 h7 h8 => by rw [hA]; exact part_up s t a a' g6 g7 g8 w so (by omega) (by omega) h6 h7 h8
  have PD : Hid (∀ w g6 g7 g8, w.cell? ⟨g6, 0, none⟩ = some (.int .i64 s) → w.cell? ⟨g7, 0, none⟩ = some (.int .i64 t) → w.heap[g8]? = some (.cells #[.int .i64 0] 28 (0, 0)) →
      Calls Try.prog 70 #[.func (.func 71) #[] #[], .int .i64 d, .int .i64 d', .pointer (some ⟨g6, 0, none⟩), .pointer (some ⟨g7, 0, none⟩), .pointer (some ⟨g8, 0, none⟩)] w fun e w' => e = .returned (.int .i64 D) ∧ Below w.heap.size w w') :=
    fun w g6 g7 g8 h6 h7 h8 => by rw [hD]; exact part_up s t d d' g6 g7 g8 w so (by omega) (by omega) h6 h7 h8
  have PB : Hid (∀ w g6 g7 g8, w.cell? ⟨g6, 0, none⟩ = some (.int .i64 s) → w.cell? ⟨g7, 0, none⟩ = some (.int .i64 t) → w.heap[g8]? = some (.cells #[.int .i64 0] 28 (0, 0)) →
      Calls Try.prog 70 #[.func (.func 72) #[] #[], .int .i64 b, .int .i64 b', .pointer (some ⟨g6, 0, none⟩), .pointer (some ⟨g7, 0, none⟩), .pointer (some ⟨g8, 0, none⟩)] w fun e w' => e = .returned (.int .i64 B) ∧ Below w.heap.size w w') :=
    fun w g6 g7 g8 h6 h7 h8 => by rw [hB]; exact part_down s t b b' g6 g7 g8 w so (by omega) (by omega) h6 h7 h8
  have bnd : -600000000000000 ≤ A ∧ A ≤ 600000000000000 ∧ -600000000000000 ≤ D ∧ D ≤ 600000000000000 := by
    have a1 := (up_one s t a so.1 so.2.1 so.2.2.1 so.2.2.2 (by omega) (by omega) (by omega)).2
    have a2 := (up_one t s a' so.2.2.1 so.2.2.2 so.1 so.2.1 (by omega) (by omega) (by omega)).2
    have a3 := (up_one s t d so.1 so.2.1 so.2.2.1 so.2.2.2 (by omega) (by omega) (by omega)).2
    have a4 := (up_one t s d' so.2.2.1 so.2.2.2 so.1 so.2.1 (by omega) (by omega) (by omega)).2
    rw [Int.add_comm t s] at a2 a4
    omega
  have SU : sumEl ⟨x, y, a, b, d⟩ ⟨x', y', a', b', d'⟩ = ⟨x + x', y + y', A + 2, B, D + 2⟩ := by
    unfold sumEl; simp only [← hs, ← ht, ← hA, ← hB, ← hD]
  have E : Hid (sumE ⟨x, y, a, b, d⟩ ⟨x', y', a', b', d'⟩ = if El.may ⟨x + x', y + y', A + 2, B, D + 2⟩ = true then (⟨x + x', y + y', A + 2, B, D + 2⟩, 0) else (El.zero, 2)) := by
    show _ = _; unfold sumE; rw [if_pos ⟨he, hf⟩, SU]
  obtain ⟨bA1, bA2, bD1, bD2⟩ := bnd
  obtain ⟨⟨bx1, bx2, by1, by2⟩, -⟩ := me
  obtain ⟨⟨bx3, bx4, by3, by4⟩, -⟩ := mf
  obtain ⟨m, hm⟩ : ∃ m, m = El.may ⟨x + x', y + y', A + 2, B, D + 2⟩ := ⟨_, rfl⟩
  have HM := Lib.hid hm.symm
  rw [HM.out] at E
  clear he hf hs ht re rf qe qf so hA hB hD SU hm
  go_enter Try.func56, Try.ntmps56
  go_wp2_with fail
  refine (ellmay_c _ _ _ _ _ _).mono ?_; rintro e w1 ⟨rfl, hb1⟩; rw [HE.out]; have z_w1 := hb1.size; (try simp at z_w1); obtain ⟨y_w1_0_0, c_w1_0_0, f_w1_0_0, r_w1_0_0, t_w1_0_0, p_w1_0_0⟩ := bk hb1 (w.heap.size) (by first | omega | (simp; done) | (simp; omega) | fail); obtain ⟨y_w1_0_1, c_w1_0_1, f_w1_0_1, r_w1_0_1, t_w1_0_1, p_w1_0_1⟩ := bk hb1 (w.heap.size + 1) (by first | omega | (simp; done) | (simp; omega) | fail); obtain ⟨y_w1_0_2, c_w1_0_2, f_w1_0_2, r_w1_0_2, t_w1_0_2, p_w1_0_2⟩ := bk hb1 (w.heap.size + 1 + 1) (by first | omega | (simp; done) | (simp; omega) | fail)
  go_wp2_with fail
  refine (ellmay_c _ _ _ _ _ _).mono ?_; rintro e w2 ⟨rfl, hb2⟩; rw [HF.out]; have z_w2 := hb2.size; (try simp at z_w2); obtain ⟨y_w2_0_0, c_w2_0_0, f_w2_0_0, r_w2_0_0, t_w2_0_0, p_w2_0_0⟩ := bk hb2 (w.heap.size) (by first | omega | (simp; done) | (simp; omega) | fail); obtain ⟨y_w2_0_1, c_w2_0_1, f_w2_0_1, r_w2_0_1, t_w2_0_1, p_w2_0_1⟩ := bk hb2 (w.heap.size + 1) (by first | omega | (simp; done) | (simp; omega) | fail); obtain ⟨y_w2_0_2, c_w2_0_2, f_w2_0_2, r_w2_0_2, t_w2_0_2, p_w2_0_2⟩ := bk hb2 (w.heap.size + 1 + 1) (by first | omega | (simp; done) | (simp; omega) | fail)
  go_wp2_with fail
  go_cut [6, 7] from 8 (fun s6 s7 wc => ∃ g h, s6 = .pointer (some ⟨g, 0, none⟩) ∧ s7 = .pointer (some ⟨h, 0, none⟩) ∧ w.heap.size + 1 + 1 + 1 ≤ g ∧ g < wc.heap.size ∧ w.heap.size + 1 + 1 + 1 ≤ h ∧ h < wc.heap.size ∧
    wc.cell? ⟨g, 0, none⟩ = some (.int .i64 s) ∧ wc.cell? ⟨h, 0, none⟩ = some (.int .i64 t) ∧ Hid (Below w2.heap.size w2 wc))
  case first =>
    go_region_held3 (fun w' => w'.cell? ⟨w.heap.size, 0, none⟩ = some (.int .i64 x) ∧ w'.cell? ⟨w.heap.size, 1, none⟩ = some (.int .i64 y) ∧ w'.cell? ⟨w.heap.size, 2, none⟩ = some (.int .i64 a) ∧ w'.cell? ⟨w.heap.size, 3, none⟩ = some (.int .i64 b) ∧ w'.cell? ⟨w.heap.size, 4, none⟩ = some (.int .i64 d) ∧
        w'.cell? ⟨w.heap.size + 1, 0, none⟩ = some (.int .i64 x') ∧ w'.cell? ⟨w.heap.size + 1, 1, none⟩ = some (.int .i64 y') ∧ w'.cell? ⟨w.heap.size + 1, 2, none⟩ = some (.int .i64 a') ∧ w'.cell? ⟨w.heap.size + 1, 3, none⟩ = some (.int .i64 b') ∧ w'.cell? ⟨w.heap.size + 1, 4, none⟩ = some (.int .i64 d')) (go_simp)
      (first
      | (go_at_call 26; refine (ellrad_c x y a b d _).mono ?_; rintro e w3 ⟨rfl, hb3⟩; rw [HS.out]; have z_w3 := hb3.size; (try simp at z_w3); obtain ⟨y_w3_0_0, c_w3_0_0, f_w3_0_0, r_w3_0_0, t_w3_0_0, p_w3_0_0⟩ := bk hb3 (w.heap.size) (by first | omega | (simp; done) | (simp; omega) | fail); obtain ⟨y_w3_0_1, c_w3_0_1, f_w3_0_1, r_w3_0_1, t_w3_0_1, p_w3_0_1⟩ := bk hb3 (w.heap.size + 1) (by first | omega | (simp; done) | (simp; omega) | fail); obtain ⟨y_w3_0_2, c_w3_0_2, f_w3_0_2, r_w3_0_2, t_w3_0_2, p_w3_0_2⟩ := bk hb3 (w.heap.size + 1 + 1) (by first | omega | (simp; done) | (simp; omega) | fail); (try (refine with_imp (bk hb3 (w2.heap.size)) ?_ ?_; (focus (first | omega | (simp; done) | (simp; omega))); rintro ⟨y_w3_q1, c_w3_q1, f_w3_q1, r_w3_q1, t_w3_q1, p_w3_q1⟩; have n0_w3_q1 : ¬ (w.heap.size = w2.heap.size) := (by omega); have n1_w3_q1 : ¬ (w.heap.size + 1 = w2.heap.size) := (by omega); have n2_w3_q1 : ¬ (w.heap.size + 1 + 1 = w2.heap.size) := (by omega))); (try (refine with_imp (bk hb3 (w2.heap.size + 1)) ?_ ?_; (focus (first | omega | (simp; done) | (simp; omega))); rintro ⟨y_w3_q2, c_w3_q2, f_w3_q2, r_w3_q2, t_w3_q2, p_w3_q2⟩)); (try (refine with_imp (bk hb3 (w4.heap.size)) ?_ ?_; (focus (first | omega | (simp; done) | (simp; omega))); rintro ⟨y_w3_q3, c_w3_q3, f_w3_q3, r_w3_q3, t_w3_q3, p_w3_q3⟩; have n0_w3_q3 : ¬ (w.heap.size = w4.heap.size) := (by omega); have n1_w3_q3 : ¬ (w.heap.size + 1 = w4.heap.size) := (by omega); have n2_w3_q3 : ¬ (w.heap.size + 1 + 1 = w4.heap.size) := (by omega))); (try (refine with_imp (bk hb3 (w4.heap.size + 1)) ?_ ?_; (focus (first | omega | (simp; done) | (simp; omega))); rintro ⟨y_w3_q4, c_w3_q4, f_w3_q4, r_w3_q4, t_w3_q4, p_w3_q4⟩)))
      | (go_at_call 26; refine (ellrad_c x' y' a' b' d' _).mono ?_; rintro e w4 ⟨rfl, hb4⟩; rw [HT.out]; have z_w4 := hb4.size; (try simp at z_w4); obtain ⟨y_w4_0_0, c_w4_0_0, f_w4_0_0, r_w4_0_0, t_w4_0_0, p_w4_0_0⟩ := bk hb4 (w.heap.size) (by first | omega | (simp; done) | (simp; omega) | fail); obtain ⟨y_w4_0_1, c_w4_0_1, f_w4_0_1, r_w4_0_1, t_w4_0_1, p_w4_0_1⟩ := bk hb4 (w.heap.size + 1) (by first | omega | (simp; done) | (simp; omega) | fail); obtain ⟨y_w4_0_2, c_w4_0_2, f_w4_0_2, r_w4_0_2, t_w4_0_2, p_w4_0_2⟩ := bk hb4 (w.heap.size + 1 + 1) (by first | omega | (simp; done) | (simp; omega) | fail); (try (refine with_imp (bk hb4 (w2.heap.size)) ?_ ?_; (focus (first | omega | (simp; done) | (simp; omega))); rintro ⟨y_w4_q1, c_w4_q1, f_w4_q1, r_w4_q1, t_w4_q1, p_w4_q1⟩; have n0_w4_q1 : ¬ (w.heap.size = w2.heap.size) := (by omega); have n1_w4_q1 : ¬ (w.heap.size + 1 = w2.heap.size) := (by omega); have n2_w4_q1 : ¬ (w.heap.size + 1 + 1 = w2.heap.size) := (by omega))); (try (refine with_imp (bk hb4 (w2.heap.size + 1)) ?_ ?_; (focus (first | omega | (simp; done) | (simp; omega))); rintro ⟨y_w4_q2, c_w4_q2, f_w4_q2, r_w4_q2, t_w4_q2, p_w4_q2⟩)); (try (refine with_imp (bk hb4 (w3.heap.size)) ?_ ?_; (focus (first | omega | (simp; done) | (simp; omega))); rintro ⟨y_w4_q3, c_w4_q3, f_w4_q3, r_w4_q3, t_w4_q3, p_w4_q3⟩; have n0_w4_q3 : ¬ (w.heap.size = w3.heap.size) := (by omega); have n1_w4_q3 : ¬ (w.heap.size + 1 = w3.heap.size) := (by omega); have n2_w4_q3 : ¬ (w.heap.size + 1 + 1 = w3.heap.size) := (by omega))); (try (refine with_imp (bk hb4 (w3.heap.size + 1)) ?_ ?_; (focus (first | omega | (simp; done) | (simp; omega))); rintro ⟨y_w4_q4, c_w4_q4, f_w4_q4, r_w4_q4, t_w4_q4, p_w4_q4⟩))))
    all_goals go_wp2_with fail
    all_goals go_meet
    all_goals exact ⟨_, _, rfl, rfl, (by first | omega | (simp; done) | (simp; omega) | fail), (by first | omega | (simp; done) | (simp; omega) | fail), (by first | omega | (simp; done) | (simp; omega) | fail), (by first | omega | (simp; done) | (simp; omega) | fail), (by go_simp), (by go_simp), (show Below w2.heap.size w2 _ from (by repeat (first | with_reducible exact Below.refl _ _ | with_reducible exact Below_of_hid (by assumption) | with_reducible refine Below.drew ?_ | with_reducible refine below_drewN ?_ _ | (with_reducible refine Below_putRow ?_ ?hB _ _; case hB => (first | omega | (simp; done) | (simp; omega))) | (with_reducible refine Below.alloc ?_ ?hB _; case hB => (first | omega | (simp; done) | (simp; omega))) | (with_reducible refine Below.setCell ?_ ?hB _; case hB => (first | omega | (simp; done) | (simp; omega))) | (with_reducible refine Below.trans ?_ (Below.mono (by assumption) ?hB); case hB => (first | omega | (simp; done) | (simp; omega))))))⟩
  case rest =>
    obtain ⟨g, h, rfl, rfl, hg1, hg2, hh1, hh2, hgc, hhc, HBC⟩ := hcut
    have hbc := HBC.out
    have z_wc := hbc.size; (try simp at z_wc); obtain ⟨y_wc_0_0, c_wc_0_0, f_wc_0_0, r_wc_0_0, t_wc_0_0, p_wc_0_0⟩ := bk hbc (w.heap.size) (by first | omega | (simp; done) | (simp; omega) | fail); obtain ⟨y_wc_0_1, c_wc_0_1, f_wc_0_1, r_wc_0_1, t_wc_0_1, p_wc_0_1⟩ := bk hbc (w.heap.size + 1) (by first | omega | (simp; done) | (simp; omega) | fail); obtain ⟨y_wc_0_2, c_wc_0_2, f_wc_0_2, r_wc_0_2, t_wc_0_2, p_wc_0_2⟩ := bk hbc (w.heap.size + 1 + 1) (by first | omega | (simp; done) | (simp; omega) | fail)
    go_wp2_with fail
    refine (PA.out _ _ _ _ (by go_simp) (by go_simp) ((Blk.new wc #[.int .i64 0] 28).alloc _)).mono ?_; rintro e w5 ⟨rfl, hb5⟩
    have B5 := Lib.hid (((Blk.new wc #[.int .i64 0] 28).alloc _).keep hb5)
    have z_w5 := hb5.size; (try simp at z_w5); obtain ⟨y_w5_0_0, c_w5_0_0, f_w5_0_0, r_w5_0_0, t_w5_0_0, p_w5_0_0⟩ := bk hb5 (w.heap.size) (by first | omega | (simp; done) | (simp; omega) | fail); obtain ⟨y_w5_0_1, c_w5_0_1, f_w5_0_1, r_w5_0_1, t_w5_0_1, p_w5_0_1⟩ := bk hb5 (w.heap.size + 1) (by first | omega | (simp; done) | (simp; omega) | fail); obtain ⟨y_w5_0_2, c_w5_0_2, f_w5_0_2, r_w5_0_2, t_w5_0_2, p_w5_0_2⟩ := bk hb5 (w.heap.size + 1 + 1) (by first | omega | (simp; done) | (simp; omega) | fail); obtain ⟨y_w5_1_0, c_w5_1_0, f_w5_1_0, r_w5_1_0, t_w5_1_0, p_w5_1_0⟩ := bk hb5 (wc.heap.size) (by first | omega | (simp; done) | (simp; omega) | fail); obtain ⟨y_w5_1_1, c_w5_1_1, f_w5_1_1, r_w5_1_1, t_w5_1_1, p_w5_1_1⟩ := bk hb5 (wc.heap.size + 1) (by first | omega | (simp; done) | (simp; omega) | fail); obtain ⟨y_w5_g, c_w5_g, f_w5_g, r_w5_g, t_w5_g, p_w5_g⟩ := bk hb5 (g) (by first | omega | (simp; done) | (simp; omega) | fail); obtain ⟨y_w5_h, c_w5_h, f_w5_h, r_w5_h, t_w5_h, p_w5_h⟩ := bk hb5 (h) (by first | omega | (simp; done) | (simp; omega) | fail)
    go_wp2_with fail
    refine (PD.out _ _ _ _ (by go_simp) (by go_simp) (B5.out.setCell_other (by simp) _)).mono ?_; rintro e w6 ⟨rfl, hb6⟩
    have B6 := Lib.hid (Blk.keep (B5.out.setCell_other (by simp) _) hb6)
    have z_w6 := hb6.size; (try simp at z_w6); obtain ⟨y_w6_0_0, c_w6_0_0, f_w6_0_0, r_w6_0_0, t_w6_0_0, p_w6_0_0⟩ := bk hb6 (w.heap.size) (by first | omega | (simp; done) | (simp; omega) | fail); obtain ⟨y_w6_0_1, c_w6_0_1, f_w6_0_1, r_w6_0_1, t_w6_0_1, p_w6_0_1⟩ := bk hb6 (w.heap.size + 1) (by first | omega | (simp; done) | (simp; omega) | fail); obtain ⟨y_w6_0_2, c_w6_0_2, f_w6_0_2, r_w6_0_2, t_w6_0_2, p_w6_0_2⟩ := bk hb6 (w.heap.size + 1 + 1) (by first | omega | (simp; done) | (simp; omega) | fail); obtain ⟨y_w6_1_0, c_w6_1_0, f_w6_1_0, r_w6_1_0, t_w6_1_0, p_w6_1_0⟩ := bk hb6 (wc.heap.size) (by first | omega | (simp; done) | (simp; omega) | fail); obtain ⟨y_w6_1_1, c_w6_1_1, f_w6_1_1, r_w6_1_1, t_w6_1_1, p_w6_1_1⟩ := bk hb6 (wc.heap.size + 1) (by first | omega | (simp; done) | (simp; omega) | fail); obtain ⟨y_w6_g, c_w6_g, f_w6_g, r_w6_g, t_w6_g, p_w6_g⟩ := bk hb6 (g) (by first | omega | (simp; done) | (simp; omega) | fail); obtain ⟨y_w6_h, c_w6_h, f_w6_h, r_w6_h, t_w6_h, p_w6_h⟩ := bk hb6 (h) (by first | omega | (simp; done) | (simp; omega) | fail)
    go_wp2_with fail
    refine (PB.out _ _ _ _ (by go_simp) (by go_simp) (B6.out.setCell_other (by simp) _)).mono ?_; rintro e w7 ⟨rfl, hb7⟩
    have z_w7 := hb7.size; (try simp at z_w7); obtain ⟨y_w7_0_0, c_w7_0_0, f_w7_0_0, r_w7_0_0, t_w7_0_0, p_w7_0_0⟩ := bk hb7 (w.heap.size) (by first | omega | (simp; done) | (simp; omega) | fail); obtain ⟨y_w7_0_1, c_w7_0_1, f_w7_0_1, r_w7_0_1, t_w7_0_1, p_w7_0_1⟩ := bk hb7 (w.heap.size + 1) (by first | omega | (simp; done) | (simp; omega) | fail); obtain ⟨y_w7_0_2, c_w7_0_2, f_w7_0_2, r_w7_0_2, t_w7_0_2, p_w7_0_2⟩ := bk hb7 (w.heap.size + 1 + 1) (by first | omega | (simp; done) | (simp; omega) | fail); obtain ⟨y_w7_1_0, c_w7_1_0, f_w7_1_0, r_w7_1_0, t_w7_1_0, p_w7_1_0⟩ := bk hb7 (wc.heap.size) (by first | omega | (simp; done) | (simp; omega) | fail); obtain ⟨y_w7_1_1, c_w7_1_1, f_w7_1_1, r_w7_1_1, t_w7_1_1, p_w7_1_1⟩ := bk hb7 (wc.heap.size + 1) (by first | omega | (simp; done) | (simp; omega) | fail)
    go_wp2_with fail
    refine (ellmay_c _ _ _ _ _ _).mono ?_; rintro e w8 ⟨rfl, hb8⟩
    rw [HM.out]
    have z_w8 := hb8.size; (try simp at z_w8); obtain ⟨y_w8_0_0, c_w8_0_0, f_w8_0_0, r_w8_0_0, t_w8_0_0, p_w8_0_0⟩ := bk hb8 (w.heap.size) (by first | omega | (simp; done) | (simp; omega) | fail); obtain ⟨y_w8_0_1, c_w8_0_1, f_w8_0_1, r_w8_0_1, t_w8_0_1, p_w8_0_1⟩ := bk hb8 (w.heap.size + 1) (by first | omega | (simp; done) | (simp; omega) | fail); obtain ⟨y_w8_0_2, c_w8_0_2, f_w8_0_2, r_w8_0_2, t_w8_0_2, p_w8_0_2⟩ := bk hb8 (w.heap.size + 1 + 1) (by first | omega | (simp; done) | (simp; omega) | fail); obtain ⟨y_w8_1_0, c_w8_1_0, f_w8_1_0, r_w8_1_0, t_w8_1_0, p_w8_1_0⟩ := bk hb8 (wc.heap.size) (by first | omega | (simp; done) | (simp; omega) | fail); obtain ⟨y_w8_1_1, c_w8_1_1, f_w8_1_1, r_w8_1_1, t_w8_1_1, p_w8_1_1⟩ := bk hb8 (wc.heap.size + 1) (by first | omega | (simp; done) | (simp; omega) | fail)
    cases m with
    | true =>
      go_wp2_with fail
      exact bodyPost_row_t 5 #[.int .i64 (x + x'), .int .i64 (y + y'), .int .i64 (A + 2), .int .i64 B, .int .i64 (D + 2)] (.int .i64 0) rfl rfl rfl rfl Try.underlying27 rfl (by kernel_rfl) (row_of_cells 4 _ rfl (by intro i hi; rcases i with _ | _ | _ | _ | _ | i; (go_simp); (go_simp); (go_simp); (go_simp); (go_simp); exact absurd hi (by omega))) ⟨by rw [E.out]; rfl, (by repeat (first | with_reducible exact Below.refl _ _ | with_reducible exact Below_of_hid (by assumption) | with_reducible refine Below.drew ?_ | with_reducible refine below_drewN ?_ _ | (with_reducible refine Below_putRow ?_ ?hB _ _; case hB => (first | omega | (simp; done) | (simp; omega))) | (with_reducible refine Below.alloc ?_ ?hB _; case hB => (first | omega | (simp; done) | (simp; omega))) | (with_reducible refine Below.setCell ?_ ?hB _; case hB => (first | omega | (simp; done) | (simp; omega))) | (with_reducible refine Below.trans ?_ (Below.mono (by assumption) ?hB); case hB => (first | omega | (simp; done) | (simp; omega)))))⟩
    | false =>
      go_wp2_with fail
      exact bodyPost_row_t 5 #[.int .i64 0, .int .i64 0, .int .i64 0, .int .i64 0, .int .i64 0] (.int .i64 2) rfl rfl rfl rfl Try.underlying27 rfl (by kernel_rfl) (row_of_cells 4 _ rfl (by intro i hi; rcases i with _ | _ | _ | _ | _ | i; (go_simp); (go_simp); (go_simp); (go_simp); (go_simp); exact absurd hi (by omega))) ⟨by rw [E.out]; rfl, (by repeat (first | with_reducible exact Below.refl _ _ | with_reducible exact Below_of_hid (by assumption) | with_reducible refine Below.drew ?_ | with_reducible refine below_drewN ?_ _ | (with_reducible refine Below_putRow ?_ ?hB _ _; case hB => (first | omega | (simp; done) | (simp; omega))) | (with_reducible refine Below.alloc ?_ ?hB _; case hB => (first | omega | (simp; done) | (simp; omega))) | (with_reducible refine Below.setCell ?_ ?hB _; case hB => (first | omega | (simp; done) | (simp; omega))) | (with_reducible refine Below.trans ?_ (Below.mono (by assumption) ?hB); case hB => (first | omega | (simp; done) | (simp; omega)))))⟩

theorem sum_f1 (x y a b d x' y' a' b' d' : Int) (he : El.may ⟨x, y, a, b, d⟩ = false) (w : World) :
    Calls Try.prog 56 #[elC x y a b d, elC x' y' a' b' d'] w fun r w' =>
      r = .returned (.tuple #[elV (sumE ⟨x, y, a, b, d⟩ ⟨x', y', a', b', d'⟩).1, .int .i64 (sumE ⟨x, y, a, b, d⟩ ⟨x', y', a', b', d'⟩).2]) ∧ Below w.heap.size w w' := by
  have HE := Lib.hid he
  have E : Hid (sumE ⟨x, y, a, b, d⟩ ⟨x', y', a', b', d'⟩ = (El.zero, 1)) := by
    show _ = _; unfold sumE; rw [if_neg]; rintro ⟨h, _⟩; rw [he] at h; cases h
  clear he
  go_enter Try.func56, Try.ntmps56
  go_wp2_with fail
  refine (ellmay_c _ _ _ _ _ _).mono ?_; rintro e w1 ⟨rfl, hb1⟩; rw [HE.out]; have z_w1 := hb1.size; (try simp at z_w1); obtain ⟨y_w1_0_0, c_w1_0_0, f_w1_0_0, r_w1_0_0, t_w1_0_0, p_w1_0_0⟩ := bk hb1 (w.heap.size) (by first | omega | (simp; done) | (simp; omega) | fail); obtain ⟨y_w1_0_1, c_w1_0_1, f_w1_0_1, r_w1_0_1, t_w1_0_1, p_w1_0_1⟩ := bk hb1 (w.heap.size + 1) (by first | omega | (simp; done) | (simp; omega) | fail); obtain ⟨y_w1_0_2, c_w1_0_2, f_w1_0_2, r_w1_0_2, t_w1_0_2, p_w1_0_2⟩ := bk hb1 (w.heap.size + 1 + 1) (by first | omega | (simp; done) | (simp; omega) | fail)
  go_wp2_with fail
  exact bodyPost_row_t 5 #[.int .i64 0, .int .i64 0, .int .i64 0, .int .i64 0, .int .i64 0] (.int .i64 1) rfl rfl rfl rfl Try.underlying27 rfl (by kernel_rfl) (row_of_cells 4 _ rfl (by intro i hi; rcases i with _ | _ | _ | _ | _ | i; (go_simp); (go_simp); (go_simp); (go_simp); (go_simp); exact absurd hi (by omega))) ⟨by rw [E.out]; rfl, (by repeat (first | with_reducible exact Below.refl _ _ | with_reducible exact Below_of_hid (by assumption) | with_reducible refine Below.drew ?_ | with_reducible refine below_drewN ?_ _ | (with_reducible refine Below_putRow ?_ ?hB _ _; case hB => (first | omega | (simp; done) | (simp; omega))) | (with_reducible refine Below.alloc ?_ ?hB _; case hB => (first | omega | (simp; done) | (simp; omega))) | (with_reducible refine Below.setCell ?_ ?hB _; case hB => (first | omega | (simp; done) | (simp; omega))) | (with_reducible refine Below.trans ?_ (Below.mono (by assumption) ?hB); case hB => (first | omega | (simp; done) | (simp; omega)))))⟩
theorem sum_f2 (x y a b d x' y' a' b' d' : Int) (he : El.may ⟨x, y, a, b, d⟩ = true) (hf : El.may ⟨x', y', a', b', d'⟩ = false) (w : World) :
    Calls Try.prog 56 #[elC x y a b d, elC x' y' a' b' d'] w fun r w' =>
      r = .returned (.tuple #[elV (sumE ⟨x, y, a, b, d⟩ ⟨x', y', a', b', d'⟩).1, .int .i64 (sumE ⟨x, y, a, b, d⟩ ⟨x', y', a', b', d'⟩).2]) ∧ Below w.heap.size w w' := by
  have HE := Lib.hid he
  have HF := Lib.hid hf
  have E : Hid (sumE ⟨x, y, a, b, d⟩ ⟨x', y', a', b', d'⟩ = (El.zero, 1)) := by
    show _ = _; unfold sumE; rw [if_neg]; rintro ⟨_, h⟩; rw [hf] at h; cases h
  clear he hf
  go_enter Try.func56, Try.ntmps56
  go_wp2_with fail
  refine (ellmay_c _ _ _ _ _ _).mono ?_; rintro e w1 ⟨rfl, hb1⟩; rw [HE.out]; have z_w1 := hb1.size; (try simp at z_w1); obtain ⟨y_w1_0_0, c_w1_0_0, f_w1_0_0, r_w1_0_0, t_w1_0_0, p_w1_0_0⟩ := bk hb1 (w.heap.size) (by first | omega | (simp; done) | (simp; omega) | fail); obtain ⟨y_w1_0_1, c_w1_0_1, f_w1_0_1, r_w1_0_1, t_w1_0_1, p_w1_0_1⟩ := bk hb1 (w.heap.size + 1) (by first | omega | (simp; done) | (simp; omega) | fail); obtain ⟨y_w1_0_2, c_w1_0_2, f_w1_0_2, r_w1_0_2, t_w1_0_2, p_w1_0_2⟩ := bk hb1 (w.heap.size + 1 + 1) (by first | omega | (simp; done) | (simp; omega) | fail)
  go_wp2_with fail
  refine (ellmay_c _ _ _ _ _ _).mono ?_; rintro e w2 ⟨rfl, hb2⟩; rw [HF.out]; have z_w2 := hb2.size; (try simp at z_w2); obtain ⟨y_w2_0_0, c_w2_0_0, f_w2_0_0, r_w2_0_0, t_w2_0_0, p_w2_0_0⟩ := bk hb2 (w.heap.size) (by first | omega | (simp; done) | (simp; omega) | fail); obtain ⟨y_w2_0_1, c_w2_0_1, f_w2_0_1, r_w2_0_1, t_w2_0_1, p_w2_0_1⟩ := bk hb2 (w.heap.size + 1) (by first | omega | (simp; done) | (simp; omega) | fail); obtain ⟨y_w2_0_2, c_w2_0_2, f_w2_0_2, r_w2_0_2, t_w2_0_2, p_w2_0_2⟩ := bk hb2 (w.heap.size + 1 + 1) (by first | omega | (simp; done) | (simp; omega) | fail)
  go_wp2_with fail
  exact bodyPost_row_t 5 #[.int .i64 0, .int .i64 0, .int .i64 0, .int .i64 0, .int .i64 0] (.int .i64 1) rfl rfl rfl rfl Try.underlying27 rfl (by kernel_rfl) (row_of_cells 4 _ rfl (by intro i hi; rcases i with _ | _ | _ | _ | _ | i; (go_simp); (go_simp); (go_simp); (go_simp); (go_simp); exact absurd hi (by omega))) ⟨by rw [E.out]; rfl, (by repeat (first | with_reducible exact Below.refl _ _ | with_reducible exact Below_of_hid (by assumption) | with_reducible refine Below.drew ?_ | with_reducible refine below_drewN ?_ _ | (with_reducible refine Below_putRow ?_ ?hB _ _; case hB => (first | omega | (simp; done) | (simp; omega))) | (with_reducible refine Below.alloc ?_ ?hB _; case hB => (first | omega | (simp; done) | (simp; omega))) | (with_reducible refine Below.setCell ?_ ?hB _; case hB => (first | omega | (simp; done) | (simp; omega))) | (with_reducible refine Below.trans ?_ (Below.mono (by assumption) ?hB); case hB => (first | omega | (simp; done) | (simp; omega)))))⟩
theorem sum_c (e f : El) (w : World) :
    Calls Try.prog 56 #[elV e, elV f] w fun r w' => r = .returned (.tuple #[elV (sumE e f).1, .int .i64 (sumE e f).2]) ∧ Below w.heap.size w w' := by
  cases he : e.may with
  | false => exact sum_f1 _ _ _ _ _ _ _ _ _ _ he w
  | true =>
    cases hf : f.may with
    | false => exact sum_f2 _ _ _ _ _ _ _ _ _ _ he hf w
    | true => exact sum_main _ _ _ _ _ _ _ _ _ _ he hf w
end Go.Proofs.Ytfohihjeemmedaa
