/- The walks of the document's ellipses: Trace, Radius, Ball. The walks of the document's Sum, Grow, Age. The walks of the document's Grow, Age. -/
import Derived.Test.YtnoidlacjiafdaaGreatX0
import Derived.Test.YtnoidlacjiafdaaGreatRq
import Derived.Test.YtnoidlacjiafdaaGreatBE
import Derived.Test.YtnoidlacjiafdaaGreatBA
import Derived.Lib.QuietBelow
namespace Go.Proofs.YtnoidlacjiafdaaGreat
set_option linter.unusedSimpArgs false
set_option linter.unusedVariables false
open Go.RowKit

set_option maxHeartbeats 1000000 in
theorem rtrace_c (x y a b d : Int) (w : World) :
    Calls Tryz.prog 79 #[elC x y a b d] w fun e w' => e = .returned (.int .i64 (El.tr ⟨x, y, a, b, d⟩)) ∧ Below w.heap.size w w' := by
  have E : Hid (El.tr ⟨x, y, a, b, d⟩ = if El.may ⟨x, y, a, b, d⟩ = true then a + d else 0) := rfl
  obtain ⟨m, hm⟩ : ∃ m, m = El.may ⟨x, y, a, b, d⟩ := ⟨_, rfl⟩
  have HM := Lib.hid hm.symm
  rw [HM.out] at E
  cases m with
  | false =>
    clear hm
    go_enter Tryz.func79, Tryz.ntmps79
    go_wp2_with fail
    refine (rmaye_v _ _ _ _ _ _ HM.out _).mono ?_; rintro e w1 ⟨rfl, hb1⟩; have z_w1 := hb1.size; (try simp at z_w1); obtain ⟨y_w1_0_0, c_w1_0_0, f_w1_0_0, r_w1_0_0, t_w1_0_0, p_w1_0_0⟩ := bq hb1 (w.heap.size)
    go_wp2
    go_ret
    exact ⟨by rw [E.out]; rfl, below_byR⟩
  | true =>
    obtain ⟨-, ⟨b5, b6, b7, b8, -, -⟩, -⟩ := (El.may_iff _).1 hm.symm
    simp only at b5 b6 b7 b8
    clear hm
    go_enter Tryz.func79, Tryz.ntmps79
    go_wp2_with fail
    refine (rmaye_v _ _ _ _ _ _ HM.out _).mono ?_; rintro e w1 ⟨rfl, hb1⟩; have z_w1 := hb1.size; (try simp at z_w1); obtain ⟨y_w1_0_0, c_w1_0_0, f_w1_0_0, r_w1_0_0, t_w1_0_0, p_w1_0_0⟩ := bq hb1 (w.heap.size)
    go_wp2
    go_ret
    exact ⟨by rw [E.out]; rfl, below_byR⟩
theorem rtrace_v (x y a b d k : Int) (h : El.tr ⟨x, y, a, b, d⟩ = k) (w : World) :
    Calls Tryz.prog 79 #[elC x y a b d] w fun e w' => e = .returned (.int .i64 k) ∧ Below w.heap.size w w' := by
  subst h; exact rtrace_c x y a b d w
set_option maxHeartbeats 1000000 in
theorem rradius_c (x y a b d : Int) (w : World) :
    Calls Tryz.prog 24 #[elC x y a b d] w fun e w' => e = .returned (.int .i64 (El.rad ⟨x, y, a, b, d⟩)) ∧ Below w.heap.size w w' := by
  obtain ⟨m, hm⟩ : ∃ m, El.tr ⟨x, y, a, b, d⟩ = m := ⟨_, rfl⟩
  have h := El.tr_le ⟨x, y, a, b, d⟩
  rw [hm] at h
  have HM := Lib.hid hm
  have HR : Hid (El.rad ⟨x, y, a, b, d⟩ = ((up m.toNat : Nat) : Int)) := by show _ = _; unfold El.rad; rw [HM.out]
  have HL : Hid (-9223372036854775808 ≤ m ∧ m ≤ 9223372036854775807) := by show _ ∧ _; omega
  clear hm h
  go_enter Tryz.func24, Tryz.ntmps24
  go_wp2_with fail
  refine (rtrace_v _ _ _ _ _ _ HM.out _).mono ?_; rintro e w1 ⟨rfl, hb1⟩; have z_w1 := hb1.size; (try simp at z_w1); obtain ⟨y_w1_0_0, c_w1_0_0, f_w1_0_0, r_w1_0_0, t_w1_0_0, p_w1_0_0⟩ := bq hb1 (w.heap.size)
  go_wp2_with fail
  refine (upB_r m HL.out.1 HL.out.2 _).mono ?_; rintro e w2 ⟨rfl, hb2⟩; have z_w2 := hb2.size; (try simp at z_w2); obtain ⟨y_w2_0_0, c_w2_0_0, f_w2_0_0, r_w2_0_0, t_w2_0_0, p_w2_0_0⟩ := bq hb2 (w.heap.size)
  go_wp2
  go_ret
  exact ⟨by rw [HR.out]; rfl, below_byR⟩
theorem rradius_v (x y a b d k : Int) (h : El.rad ⟨x, y, a, b, d⟩ = k) (w : World) :
    Calls Tryz.prog 24 #[elC x y a b d] w fun e w' => e = .returned (.int .i64 k) ∧ Below w.heap.size w w' := by
  subst h; exact rradius_c x y a b d w
set_option maxHeartbeats 2000000 in
theorem rball_c (x y r : Int) (w : World) :
    Calls Tryz.prog 35 #[ptV x y, .int .i64 r] w fun e w' => e = .returned (.tuple #[elV (ballE x y r).1, .int .i64 (ballE x y r).2]) ∧ Below w.heap.size w w' := by
  have E : Hid (ballE x y r = if mayPt x y = true ∧ 1 ≤ r ∧ r ≤ 4194304 then (⟨x, y, r * r, 0, r * r⟩, 0) else (El.zero, 1)) := rfl
  obtain ⟨m, hm⟩ : ∃ m, m = mayPt x y := ⟨_, rfl⟩
  have HM := Lib.hid hm.symm
  clear hm
  rw [HM.out] at E
  cases m with
  | false =>
    go_enter Tryz.func35, Tryz.ntmps35
    go_wp2_with fail
    refine (rmaypt_v _ _ _ HM.out _).mono ?_; rintro e w1 ⟨rfl, hb1⟩; have z_w1 := hb1.size; (try simp at z_w1); obtain ⟨y_w1_0_0, c_w1_0_0, f_w1_0_0, r_w1_0_0, t_w1_0_0, p_w1_0_0⟩ := bq hb1 (w.heap.size); obtain ⟨y_w1_0_1, c_w1_0_1, f_w1_0_1, r_w1_0_1, t_w1_0_1, p_w1_0_1⟩ := bq hb1 (w.heap.size + 1)
    go_wp2
    exact bodyPost_row_t 5 #[.int .i64 0, .int .i64 0, .int .i64 0, .int .i64 0, .int .i64 0] (.int .i64 1) rfl rfl rfl rfl Tryz.underlying27 rfl (by kernel_rfl) (row_of_cells 4 _ rfl (by intro i hi; rcases i with _ | _ | _ | _ | _ | i; (go_simp); (go_simp); (go_simp); (go_simp); (go_simp); exact absurd hi (by omega))) ⟨by rw [E.out]; rfl, below_byR⟩
  | true =>
    by_cases h1 : r < 1
    · have E2 : Hid (ballE x y r = (El.zero, 1)) := by show _ = _; rw [E.out, if_neg]; rintro ⟨-, h, -⟩; omega
      clear E
      go_enter Tryz.func35, Tryz.ntmps35
      go_wp2_with fail
      refine (rmaypt_v _ _ _ HM.out _).mono ?_; rintro e w1 ⟨rfl, hb1⟩; have z_w1 := hb1.size; (try simp at z_w1); obtain ⟨y_w1_0_0, c_w1_0_0, f_w1_0_0, r_w1_0_0, t_w1_0_0, p_w1_0_0⟩ := bq hb1 (w.heap.size); obtain ⟨y_w1_0_1, c_w1_0_1, f_w1_0_1, r_w1_0_1, t_w1_0_1, p_w1_0_1⟩ := bq hb1 (w.heap.size + 1)
      go_wp2
      exact bodyPost_row_t 5 #[.int .i64 0, .int .i64 0, .int .i64 0, .int .i64 0, .int .i64 0] (.int .i64 1) rfl rfl rfl rfl Tryz.underlying27 rfl (by kernel_rfl) (row_of_cells 4 _ rfl (by intro i hi; rcases i with _ | _ | _ | _ | _ | i; (go_simp); (go_simp); (go_simp); (go_simp); (go_simp); exact absurd hi (by omega))) ⟨by rw [E2.out]; rfl, below_byR⟩
    · by_cases h2 : 4194304 < r
      · have E2 : Hid (ballE x y r = (El.zero, 1)) := by show _ = _; rw [E.out, if_neg]; rintro ⟨-, -, h⟩; omega
        clear E
        go_enter Tryz.func35, Tryz.ntmps35
        go_wp2_with fail
        refine (rmaypt_v _ _ _ HM.out _).mono ?_; rintro e w1 ⟨rfl, hb1⟩; have z_w1 := hb1.size; (try simp at z_w1); obtain ⟨y_w1_0_0, c_w1_0_0, f_w1_0_0, r_w1_0_0, t_w1_0_0, p_w1_0_0⟩ := bq hb1 (w.heap.size); obtain ⟨y_w1_0_1, c_w1_0_1, f_w1_0_1, r_w1_0_1, t_w1_0_1, p_w1_0_1⟩ := bq hb1 (w.heap.size + 1)
        go_wp2
        exact bodyPost_row_t 5 #[.int .i64 0, .int .i64 0, .int .i64 0, .int .i64 0, .int .i64 0] (.int .i64 1) rfl rfl rfl rfl Tryz.underlying27 rfl (by kernel_rfl) (row_of_cells 4 _ rfl (by intro i hi; rcases i with _ | _ | _ | _ | _ | i; (go_simp); (go_simp); (go_simp); (go_simp); (go_simp); exact absurd hi (by omega))) ⟨by rw [E2.out]; rfl, below_byR⟩
      · have E2 : Hid (ballE x y r = (⟨x, y, r * r, 0, r * r⟩, 0)) := by show _ = _; rw [E.out, if_pos ⟨rfl, by omega, by omega⟩]
        obtain ⟨s, hs⟩ : ∃ s, s = r * r := ⟨_, rfl⟩
        have k2 : r * r ≤ 4194304 * 4194304 := Int.mul_le_mul (by omega) (by omega) (by omega) (by decide)
        have k3 := int_sq_nonneg r
        rw [← hs] at E2 k2 k3
        have e1 : r * r = s := hs.symm
        clear hs E
        go_enter Tryz.func35, Tryz.ntmps35
        go_wp2_with fail
        refine (rmaypt_v _ _ _ HM.out _).mono ?_; rintro e w1 ⟨rfl, hb1⟩; have z_w1 := hb1.size; (try simp at z_w1); obtain ⟨y_w1_0_0, c_w1_0_0, f_w1_0_0, r_w1_0_0, t_w1_0_0, p_w1_0_0⟩ := bq hb1 (w.heap.size); obtain ⟨y_w1_0_1, c_w1_0_1, f_w1_0_1, r_w1_0_1, t_w1_0_1, p_w1_0_1⟩ := bq hb1 (w.heap.size + 1)
        go_wp2
        exact bodyPost_row_t 5 #[.int .i64 x, .int .i64 y, .int .i64 s, .int .i64 0, .int .i64 s] (.int .i64 0) rfl rfl rfl rfl Tryz.underlying27 rfl (by kernel_rfl) (row_of_cells 4 _ rfl (by intro i hi; rcases i with _ | _ | _ | _ | _ | i; (go_simp); (go_simp); (go_simp); (go_simp); (go_simp); exact absurd hi (by omega))) ⟨by rw [E2.out], below_byR⟩
theorem rball_v (x y r : Int) (x' y' a' b' d' k : Int) (h : ballE x y r = (⟨x', y', a', b', d'⟩, k)) (w : World) :
    Calls Tryz.prog 35 #[ptV x y, .int .i64 r] w fun e w' => e = .returned (.tuple #[elC x' y' a' b' d', .int .i64 k]) ∧ Below w.heap.size w w' := by
  have := rball_c x y r w
  rw [h] at this; exact this
end Go.Proofs.YtnoidlacjiafdaaGreat
namespace Go.Proofs.YtnoidlacjiafdaaGreat
open Go.RowKit

theorem rmdu (a b c : Int) (V : Int × Int) (h : mulDivUpV a b c = V) (ha : -9223372036854775808 ≤ a ∧ a ≤ 9223372036854775807) (hb : -9223372036854775808 ≤ b ∧ b ≤ 9223372036854775807) (hc : -9223372036854775808 ≤ c ∧ c ≤ 9223372036854775807) (w : World) :
    Calls Tryz.prog 148 #[.int .i64 a, .int .i64 b, .int .i64 c] w fun e w' => e = .returned (.tuple #[.int .i64 V.1, .int .i64 V.2]) ∧ Below w.heap.size w w' := by
  subst h; exact mulDivUpB_r a b c ha hb hc w
theorem rmdd (a b c : Int) (V : Int × Int) (h : mulDivV a b c = V) (ha : -9223372036854775808 ≤ a ∧ a ≤ 9223372036854775807) (hb : -9223372036854775808 ≤ b ∧ b ≤ 9223372036854775807) (hc : -9223372036854775808 ≤ c ∧ c ≤ 9223372036854775807) (w : World) :
    Calls Tryz.prog 149 #[.int .i64 a, .int .i64 b, .int .i64 c] w fun e w' => e = .returned (.tuple #[.int .i64 V.1, .int .i64 V.2]) ∧ Below w.heap.size w w' := by
  subst h; exact mulDivB_r a b c ha hb hc w
section
set_option maxRecDepth 100000
theorem six_0 (a0 a1 a2 a3 a4 a5 : Int) (w : World) : Sem.run Tryz.prog (Instr.index 183 (.agg #[.int .i64 a0, .int .i64 a1, .int .i64 a2, .int .i64 a3, .int .i64 a4, .int .i64 a5]) (.int .i64 0)) w = .ok (.int .i64 a0) w := by rfl
theorem six_1 (a0 a1 a2 a3 a4 a5 : Int) (w : World) : Sem.run Tryz.prog (Instr.index 183 (.agg #[.int .i64 a0, .int .i64 a1, .int .i64 a2, .int .i64 a3, .int .i64 a4, .int .i64 a5]) (.int .i64 1)) w = .ok (.int .i64 a1) w := by rfl
theorem six_2 (a0 a1 a2 a3 a4 a5 : Int) (w : World) : Sem.run Tryz.prog (Instr.index 183 (.agg #[.int .i64 a0, .int .i64 a1, .int .i64 a2, .int .i64 a3, .int .i64 a4, .int .i64 a5]) (.int .i64 2)) w = .ok (.int .i64 a2) w := by rfl
theorem six_3 (a0 a1 a2 a3 a4 a5 : Int) (w : World) : Sem.run Tryz.prog (Instr.index 183 (.agg #[.int .i64 a0, .int .i64 a1, .int .i64 a2, .int .i64 a3, .int .i64 a4, .int .i64 a5]) (.int .i64 3)) w = .ok (.int .i64 a3) w := by rfl
theorem six_4 (a0 a1 a2 a3 a4 a5 : Int) (w : World) : Sem.run Tryz.prog (Instr.index 183 (.agg #[.int .i64 a0, .int .i64 a1, .int .i64 a2, .int .i64 a3, .int .i64 a4, .int .i64 a5]) (.int .i64 4)) w = .ok (.int .i64 a4) w := by rfl
theorem six_5 (a0 a1 a2 a3 a4 a5 : Int) (w : World) : Sem.run Tryz.prog (Instr.index 183 (.agg #[.int .i64 a0, .int .i64 a1, .int .i64 a2, .int .i64 a3, .int .i64 a4, .int .i64 a5]) (.int .i64 5)) w = .ok (.int .i64 a5) w := by rfl
end
theorem five_ways (a b c d : Int) : (70368744177664 < a) ∨ (¬ 70368744177664 < a ∧ 70368744177664 < b) ∨ (¬ 70368744177664 < a ∧ ¬ 70368744177664 < b ∧ 70368744177664 < c) ∨ (¬ 70368744177664 < a ∧ ¬ 70368744177664 < b ∧ ¬ 70368744177664 < c ∧ 70368744177664 < d) ∨ (¬ 70368744177664 < a ∧ ¬ 70368744177664 < b ∧ ¬ 70368744177664 < c ∧ ¬ 70368744177664 < d) := by omega
theorem not_may_great {x y a b d : Int} (h : 70368744177664 < a ∨ 70368744177664 < d) : El.may ⟨x, y, a, b, d⟩ = false := by
  cases hm : El.may ⟨x, y, a, b, d⟩ with
  | false => rfl
  | true => have := (El.may_iff _).1 hm; simp only at this; omega
set_option maxRecDepth 100000 in
set_option maxHeartbeats 4000000 in
theorem rsum_main (x y a b d x' y' a' b' d' : Int) (he : El.may ⟨x, y, a, b, d⟩ = true) (hf : El.may ⟨x', y', a', b', d'⟩ = true) (w : World) :
    Calls Tryz.prog 121 #[elC x y a b d, elC x' y' a' b' d'] w fun r w' =>
      r = .returned (.tuple #[elV (sumE ⟨x, y, a, b, d⟩ ⟨x', y', a', b', d'⟩).1, .int .i64 (sumE ⟨x, y, a, b, d⟩ ⟨x', y', a', b', d'⟩).2]) ∧ Below w.heap.size w w' := by
  have HE := Lib.hid he
  have HF := Lib.hid hf
  obtain ⟨s, hs⟩ : ∃ s, s = El.rad ⟨x, y, a, b, d⟩ := ⟨_, rfl⟩
  obtain ⟨t, ht⟩ : ∃ t, t = El.rad ⟨x', y', a', b', d'⟩ := ⟨_, rfl⟩
  have HS := Lib.hid hs.symm
  have HT := Lib.hid ht.symm
  have me := (El.may_iff _).1 he
  have mf := (El.may_iff _).1 hf
  have re := El.rad_sq _ he
  have rf := El.rad_sq _ hf
  have qe := El.b_sq _ he
  have qf := El.b_sq _ hf
  have so := (sumOk _ _ he hf).hs
  simp only [← hs, ← ht] at me mf re rf qe qf so
  obtain ⟨pa, hA⟩ : ∃ A, A = cdiv ((s + t) * a) s := ⟨_, rfl⟩
  obtain ⟨pb, hA'⟩ : ∃ A, A = cdiv ((s + t) * a') t := ⟨_, rfl⟩
  obtain ⟨pc, hD⟩ : ∃ A, A = cdiv ((s + t) * d) s := ⟨_, rfl⟩
  obtain ⟨pd, hD'⟩ : ∃ A, A = cdiv ((s + t) * d') t := ⟨_, rfl⟩
  obtain ⟨pg, hB⟩ : ∃ A, A = ((s + t) * b).fdiv s := ⟨_, rfl⟩
  obtain ⟨ph, hB'⟩ : ∃ A, A = ((s + t) * b').fdiv t := ⟨_, rfl⟩
  have a1 := up_one s t a so.1 so.2.1 so.2.2.1 so.2.2.2 (by omega) (by omega) (by omega)
  have a2 := up_one t s a' so.2.2.1 so.2.2.2 so.1 so.2.1 (by omega) (by omega) (by omega)
  have a3 := up_one s t d so.1 so.2.1 so.2.2.1 so.2.2.2 (by omega) (by omega) (by omega)
  have a4 := up_one t s d' so.2.2.1 so.2.2.2 so.1 so.2.1 (by omega) (by omega) (by omega)
  have a5 := down_one s t b so.1 so.2.1 so.2.2.1 so.2.2.2 (by omega) (by omega) (by omega) (by omega)
  have a6 := down_one t s b' so.2.2.1 so.2.2.2 so.1 so.2.1 (by omega) (by omega) (by omega) (by omega)
  have z1 := (cdiv_range (s + t) a s so.1 (by omega) (by omega) (by omega)).1
  have z2 := (cdiv_range (s + t) a' t so.2.2.1 (by omega) (by omega) (by omega)).1
  have z3 := (cdiv_range (s + t) d s so.1 (by omega) (by omega) (by omega)).1
  have z4 := (cdiv_range (s + t) d' t so.2.2.1 (by omega) (by omega) (by omega)).1
  rw [Int.add_comm t s] at a2 a4 a6
  rw [← hA] at a1 z1
  rw [← hA'] at a2 z2
  rw [← hD] at a3 z3
  rw [← hD'] at a4 z4
  rw [← hB] at a5
  rw [← hB'] at a6
  have SU : sumEl ⟨x, y, a, b, d⟩ ⟨x', y', a', b', d'⟩ = ⟨x + x', y + y', pa + pb + 2, pg + ph, pc + pd + 2⟩ := by
    unfold sumEl; simp only [← hs, ← ht, ← hA, ← hA', ← hB, ← hB', ← hD, ← hD']
  have E : Hid (sumE ⟨x, y, a, b, d⟩ ⟨x', y', a', b', d'⟩ = if El.may ⟨x + x', y + y', pa + pb + 2, pg + ph, pc + pd + 2⟩ = true then (⟨x + x', y + y', pa + pb + 2, pg + ph, pc + pd + 2⟩, 0) else (El.zero, 2)) := by
    show _ = _; unfold sumE; rw [if_pos ⟨he, hf⟩, SU]
  obtain ⟨h1, b1, b2⟩ := a1
  obtain ⟨h2, b3, b4⟩ := a2
  obtain ⟨h3, b5, b6⟩ := a3
  obtain ⟨h4, b7, b8⟩ := a4
  obtain ⟨h5, b9, b10⟩ := a5
  obtain ⟨h6, b11, b12⟩ := a6
  have H1 := Lib.hid h1
  have H2 := Lib.hid h2
  have H3 := Lib.hid h3
  have H4 := Lib.hid h4
  have H5 := Lib.hid h5
  have H6 := Lib.hid h6
  obtain ⟨⟨bx1, bx2, by1, by2⟩, ⟨c1, c2, c3, c4, c5, c6⟩, -⟩ := me
  obtain ⟨⟨bx3, bx4, by3, by4⟩, ⟨c7, c8, c9, c10, c11, c12⟩, -⟩ := mf
  obtain ⟨s1, s2, s3, s4⟩ := so
  have i0 := fun w => six_0 0 0 0 0 0 0 w
  have i1 := fun w => six_1 0 0 0 0 0 0 w
  have i2 := fun w => six_2 0 0 0 0 0 0 w
  have i3 := fun w => six_3 0 0 0 0 0 0 w
  have i4 := fun w => six_4 0 0 0 0 0 0 w
  have i5 := fun w => six_5 0 0 0 0 0 0 w
  clear he hf hs ht re rf qe qf hA hA' hB hB' hD hD' SU h1 h2 h3 h4 h5 h6
  go_enter Tryz.func121, Tryz.ntmps121
  go_wp2_with fail
  refine (rmaye_v _ _ _ _ _ _ HE.out _).mono ?_; rintro e w1 ⟨rfl, hb1⟩; have z_w1 := hb1.size; (try simp at z_w1); obtain ⟨y_w1_0_0, c_w1_0_0, f_w1_0_0, r_w1_0_0, t_w1_0_0, p_w1_0_0⟩ := bq hb1 (w.heap.size); obtain ⟨y_w1_0_1, c_w1_0_1, f_w1_0_1, r_w1_0_1, t_w1_0_1, p_w1_0_1⟩ := bq hb1 (w.heap.size + 1); obtain ⟨y_w1_0_2, c_w1_0_2, f_w1_0_2, r_w1_0_2, t_w1_0_2, p_w1_0_2⟩ := bq hb1 (w.heap.size + 1 + 1)
  go_wp2_with fail
  refine (rmaye_v _ _ _ _ _ _ HF.out _).mono ?_; rintro e w2 ⟨rfl, hb2⟩; have z_w2 := hb2.size; (try simp at z_w2); obtain ⟨y_w2_0_0, c_w2_0_0, f_w2_0_0, r_w2_0_0, t_w2_0_0, p_w2_0_0⟩ := bq hb2 (w.heap.size); obtain ⟨y_w2_0_1, c_w2_0_1, f_w2_0_1, r_w2_0_1, t_w2_0_1, p_w2_0_1⟩ := bq hb2 (w.heap.size + 1); obtain ⟨y_w2_0_2, c_w2_0_2, f_w2_0_2, r_w2_0_2, t_w2_0_2, p_w2_0_2⟩ := bq hb2 (w.heap.size + 1 + 1)
  go_wp2_with fail
  have c0 := cell_regrown (show w2.cell? ⟨w.heap.size, 0, none⟩ = some (.int .i64 x) from (by go_simp)); have c1 := cell_regrown (show w2.cell? ⟨w.heap.size, 1, none⟩ = some (.int .i64 y) from (by go_simp)); have c2 := cell_regrown (show w2.cell? ⟨w.heap.size, 2, none⟩ = some (.int .i64 a) from (by go_simp)); have c3 := cell_regrown (show w2.cell? ⟨w.heap.size, 3, none⟩ = some (.int .i64 b) from (by go_simp)); have c4 := cell_regrown (show w2.cell? ⟨w.heap.size, 4, none⟩ = some (.int .i64 d) from (by go_simp))
  have e0 := cell_regrown (show w2.cell? ⟨w.heap.size + 1, 0, none⟩ = some (.int .i64 x') from (by go_simp)); have e1 := cell_regrown (show w2.cell? ⟨w.heap.size + 1, 1, none⟩ = some (.int .i64 y') from (by go_simp)); have e2 := cell_regrown (show w2.cell? ⟨w.heap.size + 1, 2, none⟩ = some (.int .i64 a') from (by go_simp)); have e3 := cell_regrown (show w2.cell? ⟨w.heap.size + 1, 3, none⟩ = some (.int .i64 b') from (by go_simp)); have e4 := cell_regrown (show w2.cell? ⟨w.heap.size + 1, 4, none⟩ = some (.int .i64 d') from (by go_simp))
  refine wp_region_quiet_below (by kernel_rfl) (by kernel_rfl) ?_
  repeat (go_big_quiet_step (first
    | (go_at_call 24; exact Calls.regrown_of (by first | with_reducible exact rradius_v _ _ _ _ _ _ HS.out _ | with_reducible exact rradius_v _ _ _ _ _ _ HT.out _))))
  refine wpQuiet_nil ?_
  intro w3 hw3
  have hb3 := below_of_regrown hw3
  clear hw3 c0 c1 c2 c3 c4 e0 e1 e2 e3 e4
  have z_w3 := hb3.size; (try simp at z_w3); obtain ⟨y_w3_0_0, c_w3_0_0, f_w3_0_0, r_w3_0_0, t_w3_0_0, p_w3_0_0⟩ := bq hb3 (w.heap.size); obtain ⟨y_w3_0_1, c_w3_0_1, f_w3_0_1, r_w3_0_1, t_w3_0_1, p_w3_0_1⟩ := bq hb3 (w.heap.size + 1); obtain ⟨y_w3_0_2, c_w3_0_2, f_w3_0_2, r_w3_0_2, t_w3_0_2, p_w3_0_2⟩ := bq hb3 (w.heap.size + 1 + 1)
  go_wp2_with fail
  refine (rmdu _ _ _ _ H1.out (by omega) (by omega) (by omega) _).mono ?_; rintro e w4 ⟨rfl, hb4⟩; have z_w4 := hb4.size; (try simp at z_w4); obtain ⟨y_w4_0_0, c_w4_0_0, f_w4_0_0, r_w4_0_0, t_w4_0_0, p_w4_0_0⟩ := bq hb4 (w.heap.size); obtain ⟨y_w4_0_1, c_w4_0_1, f_w4_0_1, r_w4_0_1, t_w4_0_1, p_w4_0_1⟩ := bq hb4 (w.heap.size + 1); obtain ⟨y_w4_0_2, c_w4_0_2, f_w4_0_2, r_w4_0_2, t_w4_0_2, p_w4_0_2⟩ := bq hb4 (w.heap.size + 1 + 1)
  go_wp2_with fail
  refine (rmdu _ _ _ _ H2.out (by omega) (by omega) (by omega) _).mono ?_; rintro e w5 ⟨rfl, hb5⟩; have z_w5 := hb5.size; (try simp at z_w5); obtain ⟨y_w5_0_0, c_w5_0_0, f_w5_0_0, r_w5_0_0, t_w5_0_0, p_w5_0_0⟩ := bq hb5 (w.heap.size); obtain ⟨y_w5_0_1, c_w5_0_1, f_w5_0_1, r_w5_0_1, t_w5_0_1, p_w5_0_1⟩ := bq hb5 (w.heap.size + 1); obtain ⟨y_w5_0_2, c_w5_0_2, f_w5_0_2, r_w5_0_2, t_w5_0_2, p_w5_0_2⟩ := bq hb5 (w.heap.size + 1 + 1)
  go_wp2_with fail
  refine (rmdu _ _ _ _ H3.out (by omega) (by omega) (by omega) _).mono ?_; rintro e w6 ⟨rfl, hb6⟩; have z_w6 := hb6.size; (try simp at z_w6); obtain ⟨y_w6_0_0, c_w6_0_0, f_w6_0_0, r_w6_0_0, t_w6_0_0, p_w6_0_0⟩ := bq hb6 (w.heap.size); obtain ⟨y_w6_0_1, c_w6_0_1, f_w6_0_1, r_w6_0_1, t_w6_0_1, p_w6_0_1⟩ := bq hb6 (w.heap.size + 1); obtain ⟨y_w6_0_2, c_w6_0_2, f_w6_0_2, r_w6_0_2, t_w6_0_2, p_w6_0_2⟩ := bq hb6 (w.heap.size + 1 + 1)
  go_wp2_with fail
  refine (rmdu _ _ _ _ H4.out (by omega) (by omega) (by omega) _).mono ?_; rintro e w7 ⟨rfl, hb7⟩; have z_w7 := hb7.size; (try simp at z_w7); obtain ⟨y_w7_0_0, c_w7_0_0, f_w7_0_0, r_w7_0_0, t_w7_0_0, p_w7_0_0⟩ := bq hb7 (w.heap.size); obtain ⟨y_w7_0_1, c_w7_0_1, f_w7_0_1, r_w7_0_1, t_w7_0_1, p_w7_0_1⟩ := bq hb7 (w.heap.size + 1); obtain ⟨y_w7_0_2, c_w7_0_2, f_w7_0_2, r_w7_0_2, t_w7_0_2, p_w7_0_2⟩ := bq hb7 (w.heap.size + 1 + 1)
  go_wp2_with fail
  refine (rmdd _ _ _ _ H5.out (by omega) (by omega) (by omega) _).mono ?_; rintro e w8 ⟨rfl, hb8⟩; have z_w8 := hb8.size; (try simp at z_w8); obtain ⟨y_w8_0_0, c_w8_0_0, f_w8_0_0, r_w8_0_0, t_w8_0_0, p_w8_0_0⟩ := bq hb8 (w.heap.size); obtain ⟨y_w8_0_1, c_w8_0_1, f_w8_0_1, r_w8_0_1, t_w8_0_1, p_w8_0_1⟩ := bq hb8 (w.heap.size + 1); obtain ⟨y_w8_0_2, c_w8_0_2, f_w8_0_2, r_w8_0_2, t_w8_0_2, p_w8_0_2⟩ := bq hb8 (w.heap.size + 1 + 1)
  go_wp2_with fail
  refine (rmdd _ _ _ _ H6.out (by omega) (by omega) (by omega) _).mono ?_; rintro e w9 ⟨rfl, hb9⟩; have z_w9 := hb9.size; (try simp at z_w9); obtain ⟨y_w9_0_0, c_w9_0_0, f_w9_0_0, r_w9_0_0, t_w9_0_0, p_w9_0_0⟩ := bq hb9 (w.heap.size); obtain ⟨y_w9_0_1, c_w9_0_1, f_w9_0_1, r_w9_0_1, t_w9_0_1, p_w9_0_1⟩ := bq hb9 (w.heap.size + 1); obtain ⟨y_w9_0_2, c_w9_0_2, f_w9_0_2, r_w9_0_2, t_w9_0_2, p_w9_0_2⟩ := bq hb9 (w.heap.size + 1 + 1)
  go_wp2_with fail
  refine wp_loop_rounds 8 ?_
  rw [rounds_succ]
  go_wp2_with fail
  rw [rounds_succ]
  go_wp2_with fail
  rw [rounds_succ]
  go_wp2_with fail
  rw [rounds_succ]
  go_wp2_with fail
  rw [rounds_succ]
  go_wp2_with fail
  rw [rounds_succ]
  go_wp2_with fail
  rcases five_ways pa pb pc pd with w1' | ⟨w1', w2'⟩ | ⟨w1', w2', w3'⟩ | ⟨w1', w2', w3', w4'⟩ | ⟨w1', w2', w3', w4'⟩
  · have EV : Hid (sumE ⟨x, y, a, b, d⟩ ⟨x', y', a', b', d'⟩ = (El.zero, 2)) := by show _ = _; rw [E.out, not_may_great (by omega), if_neg (by decide)]
    clear E
    rw [rounds_succ]
    go_wp2_with fail
    exact bodyPost_row_t 5 #[.int .i64 0, .int .i64 0, .int .i64 0, .int .i64 0, .int .i64 0] (.int .i64 2) rfl rfl rfl rfl Tryz.underlying27 rfl (by kernel_rfl) (row_of_cells 4 _ rfl (by intro i hi; rcases i with _ | _ | _ | _ | _ | i; (go_simp); (go_simp); (go_simp); (go_simp); (go_simp); exact absurd hi (by omega))) ⟨by rw [EV.out]; rfl, below_byR⟩
  · have EV : Hid (sumE ⟨x, y, a, b, d⟩ ⟨x', y', a', b', d'⟩ = (El.zero, 2)) := by show _ = _; rw [E.out, not_may_great (by omega), if_neg (by decide)]
    clear E
    rw [rounds_succ]
    go_wp2_with fail
    exact bodyPost_row_t 5 #[.int .i64 0, .int .i64 0, .int .i64 0, .int .i64 0, .int .i64 0] (.int .i64 2) rfl rfl rfl rfl Tryz.underlying27 rfl (by kernel_rfl) (row_of_cells 4 _ rfl (by intro i hi; rcases i with _ | _ | _ | _ | _ | i; (go_simp); (go_simp); (go_simp); (go_simp); (go_simp); exact absurd hi (by omega))) ⟨by rw [EV.out]; rfl, below_byR⟩
  · have EV : Hid (sumE ⟨x, y, a, b, d⟩ ⟨x', y', a', b', d'⟩ = (El.zero, 2)) := by show _ = _; rw [E.out, not_may_great (by omega), if_neg (by decide)]
    clear E
    rw [rounds_succ]
    go_wp2_with fail
    exact bodyPost_row_t 5 #[.int .i64 0, .int .i64 0, .int .i64 0, .int .i64 0, .int .i64 0] (.int .i64 2) rfl rfl rfl rfl Tryz.underlying27 rfl (by kernel_rfl) (row_of_cells 4 _ rfl (by intro i hi; rcases i with _ | _ | _ | _ | _ | i; (go_simp); (go_simp); (go_simp); (go_simp); (go_simp); exact absurd hi (by omega))) ⟨by rw [EV.out]; rfl, below_byR⟩
  · have EV : Hid (sumE ⟨x, y, a, b, d⟩ ⟨x', y', a', b', d'⟩ = (El.zero, 2)) := by show _ = _; rw [E.out, not_may_great (by omega), if_neg (by decide)]
    clear E
    rw [rounds_succ]
    go_wp2_with fail
    exact bodyPost_row_t 5 #[.int .i64 0, .int .i64 0, .int .i64 0, .int .i64 0, .int .i64 0] (.int .i64 2) rfl rfl rfl rfl Tryz.underlying27 rfl (by kernel_rfl) (row_of_cells 4 _ rfl (by intro i hi; rcases i with _ | _ | _ | _ | _ | i; (go_simp); (go_simp); (go_simp); (go_simp); (go_simp); exact absurd hi (by omega))) ⟨by rw [EV.out]; rfl, below_byR⟩
  · rw [rounds_succ]
    go_wp2_with fail
    obtain ⟨m, hm⟩ : ∃ m, El.may ⟨x + x', y + y', pa + pb + 2, pg + ph, pc + pd + 2⟩ = m := ⟨_, rfl⟩
    rw [hm] at E
    refine (rmaye_v _ _ _ _ _ _ hm _).mono ?_; rintro e w10 ⟨rfl, hb10⟩
    clear hm
    have z_w10 := hb10.size; (try simp at z_w10); obtain ⟨y_w10_0_0, c_w10_0_0, f_w10_0_0, r_w10_0_0, t_w10_0_0, p_w10_0_0⟩ := bq hb10 (w.heap.size); obtain ⟨y_w10_0_1, c_w10_0_1, f_w10_0_1, r_w10_0_1, t_w10_0_1, p_w10_0_1⟩ := bq hb10 (w.heap.size + 1); obtain ⟨y_w10_0_2, c_w10_0_2, f_w10_0_2, r_w10_0_2, t_w10_0_2, p_w10_0_2⟩ := bq hb10 (w.heap.size + 1 + 1); obtain ⟨y_w10_1_0, c_w10_1_0, f_w10_1_0, r_w10_1_0, t_w10_1_0, p_w10_1_0⟩ := bq hb10 (w9.heap.size)
    cases m with
    | true =>
      go_wp2_with fail
      exact bodyPost_row_t 5 #[.int .i64 (x + x'), .int .i64 (y + y'), .int .i64 (pa + pb + 2), .int .i64 (pg + ph), .int .i64 (pc + pd + 2)] (.int .i64 0) rfl rfl rfl rfl Tryz.underlying27 rfl (by kernel_rfl) (row_of_cells 4 _ rfl (by intro i hi; rcases i with _ | _ | _ | _ | _ | i; (go_simp); (go_simp); (go_simp); (go_simp); (go_simp); exact absurd hi (by omega))) ⟨by rw [E.out]; rfl, below_byR⟩
    | false =>
      go_wp2_with fail
      exact bodyPost_row_t 5 #[.int .i64 0, .int .i64 0, .int .i64 0, .int .i64 0, .int .i64 0] (.int .i64 2) rfl rfl rfl rfl Tryz.underlying27 rfl (by kernel_rfl) (row_of_cells 4 _ rfl (by intro i hi; rcases i with _ | _ | _ | _ | _ | i; (go_simp); (go_simp); (go_simp); (go_simp); (go_simp); exact absurd hi (by omega))) ⟨by rw [E.out]; rfl, below_byR⟩
theorem rsum_f1 (x y a b d x' y' a' b' d' : Int) (he : El.may ⟨x, y, a, b, d⟩ = false) (w : World) :
    Calls Tryz.prog 121 #[elC x y a b d, elC x' y' a' b' d'] w fun r w' =>
      r = .returned (.tuple #[elV (sumE ⟨x, y, a, b, d⟩ ⟨x', y', a', b', d'⟩).1, .int .i64 (sumE ⟨x, y, a, b, d⟩ ⟨x', y', a', b', d'⟩).2]) ∧ Below w.heap.size w w' := by
  have HE := Lib.hid he
  have E : Hid (sumE ⟨x, y, a, b, d⟩ ⟨x', y', a', b', d'⟩ = (El.zero, 1)) := by
    show _ = _; unfold sumE; rw [if_neg]; rintro ⟨h, _⟩; rw [he] at h; cases h
  clear he
  go_enter Tryz.func121, Tryz.ntmps121
  go_wp2_with fail
  refine (rmaye_v _ _ _ _ _ _ HE.out _).mono ?_; rintro e w1 ⟨rfl, hb1⟩; have z_w1 := hb1.size; (try simp at z_w1); obtain ⟨y_w1_0_0, c_w1_0_0, f_w1_0_0, r_w1_0_0, t_w1_0_0, p_w1_0_0⟩ := bq hb1 (w.heap.size); obtain ⟨y_w1_0_1, c_w1_0_1, f_w1_0_1, r_w1_0_1, t_w1_0_1, p_w1_0_1⟩ := bq hb1 (w.heap.size + 1); obtain ⟨y_w1_0_2, c_w1_0_2, f_w1_0_2, r_w1_0_2, t_w1_0_2, p_w1_0_2⟩ := bq hb1 (w.heap.size + 1 + 1)
  go_wp2_with fail
  exact bodyPost_row_t 5 #[.int .i64 0, .int .i64 0, .int .i64 0, .int .i64 0, .int .i64 0] (.int .i64 1) rfl rfl rfl rfl Tryz.underlying27 rfl (by kernel_rfl) (row_of_cells 4 _ rfl (by intro i hi; rcases i with _ | _ | _ | _ | _ | i; (go_simp); (go_simp); (go_simp); (go_simp); (go_simp); exact absurd hi (by omega))) ⟨by rw [E.out]; rfl, below_byR⟩
theorem rsum_f2 (x y a b d x' y' a' b' d' : Int) (he : El.may ⟨x, y, a, b, d⟩ = true) (hf : El.may ⟨x', y', a', b', d'⟩ = false) (w : World) :
    Calls Tryz.prog 121 #[elC x y a b d, elC x' y' a' b' d'] w fun r w' =>
      r = .returned (.tuple #[elV (sumE ⟨x, y, a, b, d⟩ ⟨x', y', a', b', d'⟩).1, .int .i64 (sumE ⟨x, y, a, b, d⟩ ⟨x', y', a', b', d'⟩).2]) ∧ Below w.heap.size w w' := by
  have HE := Lib.hid he
  have HF := Lib.hid hf
  have E : Hid (sumE ⟨x, y, a, b, d⟩ ⟨x', y', a', b', d'⟩ = (El.zero, 1)) := by
    show _ = _; unfold sumE; rw [if_neg]; rintro ⟨_, h⟩; rw [hf] at h; cases h
  clear he hf
  go_enter Tryz.func121, Tryz.ntmps121
  go_wp2_with fail
  refine (rmaye_v _ _ _ _ _ _ HE.out _).mono ?_; rintro e w1 ⟨rfl, hb1⟩; have z_w1 := hb1.size; (try simp at z_w1); obtain ⟨y_w1_0_0, c_w1_0_0, f_w1_0_0, r_w1_0_0, t_w1_0_0, p_w1_0_0⟩ := bq hb1 (w.heap.size); obtain ⟨y_w1_0_1, c_w1_0_1, f_w1_0_1, r_w1_0_1, t_w1_0_1, p_w1_0_1⟩ := bq hb1 (w.heap.size + 1); obtain ⟨y_w1_0_2, c_w1_0_2, f_w1_0_2, r_w1_0_2, t_w1_0_2, p_w1_0_2⟩ := bq hb1 (w.heap.size + 1 + 1)
  go_wp2_with fail
  refine (rmaye_v _ _ _ _ _ _ HF.out _).mono ?_; rintro e w2 ⟨rfl, hb2⟩; have z_w2 := hb2.size; (try simp at z_w2); obtain ⟨y_w2_0_0, c_w2_0_0, f_w2_0_0, r_w2_0_0, t_w2_0_0, p_w2_0_0⟩ := bq hb2 (w.heap.size); obtain ⟨y_w2_0_1, c_w2_0_1, f_w2_0_1, r_w2_0_1, t_w2_0_1, p_w2_0_1⟩ := bq hb2 (w.heap.size + 1); obtain ⟨y_w2_0_2, c_w2_0_2, f_w2_0_2, r_w2_0_2, t_w2_0_2, p_w2_0_2⟩ := bq hb2 (w.heap.size + 1 + 1)
  go_wp2_with fail
  exact bodyPost_row_t 5 #[.int .i64 0, .int .i64 0, .int .i64 0, .int .i64 0, .int .i64 0] (.int .i64 1) rfl rfl rfl rfl Tryz.underlying27 rfl (by kernel_rfl) (row_of_cells 4 _ rfl (by intro i hi; rcases i with _ | _ | _ | _ | _ | i; (go_simp); (go_simp); (go_simp); (go_simp); (go_simp); exact absurd hi (by omega))) ⟨by rw [E.out]; rfl, below_byR⟩
theorem rsum_c (e f : El) (w : World) :
    Calls Tryz.prog 121 #[elV e, elV f] w fun r w' => r = .returned (.tuple #[elV (sumE e f).1, .int .i64 (sumE e f).2]) ∧ Below w.heap.size w w' := by
  cases he : e.may with
  | false => exact rsum_f1 _ _ _ _ _ _ _ _ _ _ he w
  | true =>
    cases hf : f.may with
    | false => exact rsum_f2 _ _ _ _ _ _ _ _ _ _ he hf w
    | true => exact rsum_main _ _ _ _ _ _ _ _ _ _ he hf w
theorem rsum_v (x y a b d x' y' a' b' d' : Int) (o : El) (k : Int) (h : sumE ⟨x, y, a, b, d⟩ ⟨x', y', a', b', d'⟩ = (o, k)) (w : World) :
    Calls Tryz.prog 121 #[elC x y a b d, elC x' y' a' b' d'] w fun r w' => r = .returned (.tuple #[elV o, .int .i64 k]) ∧ Below w.heap.size w w' := by
  have := rsum_c ⟨x, y, a, b, d⟩ ⟨x', y', a', b', d'⟩ w
  rw [h] at this; exact this
end Go.Proofs.YtnoidlacjiafdaaGreat
namespace Go.Proofs.YtnoidlacjiafdaaGreat
open Go.RowKit

set_option maxHeartbeats 2000000 in
theorem rgrow_c (x y a b d r : Int) (w : World) :
    Calls Tryz.prog 65 #[elC x y a b d, .int .i64 r] w fun e w' => e = .returned (.tuple #[elV (growE ⟨x, y, a, b, d⟩ r).1, .int .i64 (growE ⟨x, y, a, b, d⟩ r).2]) ∧ Below w.heap.size w w' := by
  have E : growE ⟨x, y, a, b, d⟩ r = if El.may ⟨x, y, a, b, d⟩ = true ∧ 0 ≤ r ∧ r ≤ 4194304 then (if r = 0 then (⟨x, y, a, b, d⟩, 0) else sumE ⟨x, y, a, b, d⟩ (ballE 0 0 r).1) else (El.zero, 1) := rfl
  cases hm : El.may ⟨x, y, a, b, d⟩ with
  | false =>
    have HM := Lib.hid hm
    have EV : Hid (growE ⟨x, y, a, b, d⟩ r = (El.zero, 1)) := by show _ = _; rw [E, hm, if_neg]; rintro ⟨h, _⟩; cases h
    clear E hm
    go_enter Tryz.func65, Tryz.ntmps65
    go_wp2_with fail
    refine (rmaye_v _ _ _ _ _ _ HM.out _).mono ?_; rintro e w1 ⟨rfl, hb1⟩; have z_w1 := hb1.size; (try simp at z_w1); obtain ⟨y_w1_0_0, c_w1_0_0, f_w1_0_0, r_w1_0_0, t_w1_0_0, p_w1_0_0⟩ := bq hb1 (w.heap.size); obtain ⟨y_w1_0_1, c_w1_0_1, f_w1_0_1, r_w1_0_1, t_w1_0_1, p_w1_0_1⟩ := bq hb1 (w.heap.size + 1)
    go_wp2_with fail
    exact bodyPost_row_t 5 #[.int .i64 0, .int .i64 0, .int .i64 0, .int .i64 0, .int .i64 0] (.int .i64 1) rfl rfl rfl rfl Tryz.underlying27 rfl (by kernel_rfl) (row_of_cells 4 _ rfl (by intro i hi; rcases i with _ | _ | _ | _ | _ | i; (go_simp); (go_simp); (go_simp); (go_simp); (go_simp); exact absurd hi (by omega))) ⟨by rw [EV.out]; rfl, below_byR⟩
  | true =>
    have HM := Lib.hid hm
    by_cases h1 : r < 0
    · have EV : Hid (growE ⟨x, y, a, b, d⟩ r = (El.zero, 1)) := by show _ = _; rw [E, hm, if_neg]; rintro ⟨_, h, _⟩; omega
      clear E hm
      go_enter Tryz.func65, Tryz.ntmps65
      go_wp2_with fail
      refine (rmaye_v _ _ _ _ _ _ HM.out _).mono ?_; rintro e w1 ⟨rfl, hb1⟩; have z_w1 := hb1.size; (try simp at z_w1); obtain ⟨y_w1_0_0, c_w1_0_0, f_w1_0_0, r_w1_0_0, t_w1_0_0, p_w1_0_0⟩ := bq hb1 (w.heap.size); obtain ⟨y_w1_0_1, c_w1_0_1, f_w1_0_1, r_w1_0_1, t_w1_0_1, p_w1_0_1⟩ := bq hb1 (w.heap.size + 1)
      go_wp2_with fail
      exact bodyPost_row_t 5 #[.int .i64 0, .int .i64 0, .int .i64 0, .int .i64 0, .int .i64 0] (.int .i64 1) rfl rfl rfl rfl Tryz.underlying27 rfl (by kernel_rfl) (row_of_cells 4 _ rfl (by intro i hi; rcases i with _ | _ | _ | _ | _ | i; (go_simp); (go_simp); (go_simp); (go_simp); (go_simp); exact absurd hi (by omega))) ⟨by rw [EV.out]; rfl, below_byR⟩
    · by_cases h2 : 4194304 < r
      · have EV : Hid (growE ⟨x, y, a, b, d⟩ r = (El.zero, 1)) := by show _ = _; rw [E, hm, if_neg]; rintro ⟨_, _, h⟩; omega
        clear E hm
        go_enter Tryz.func65, Tryz.ntmps65
        go_wp2_with fail
        refine (rmaye_v _ _ _ _ _ _ HM.out _).mono ?_; rintro e w1 ⟨rfl, hb1⟩; have z_w1 := hb1.size; (try simp at z_w1); obtain ⟨y_w1_0_0, c_w1_0_0, f_w1_0_0, r_w1_0_0, t_w1_0_0, p_w1_0_0⟩ := bq hb1 (w.heap.size); obtain ⟨y_w1_0_1, c_w1_0_1, f_w1_0_1, r_w1_0_1, t_w1_0_1, p_w1_0_1⟩ := bq hb1 (w.heap.size + 1)
        go_wp2_with fail
        exact bodyPost_row_t 5 #[.int .i64 0, .int .i64 0, .int .i64 0, .int .i64 0, .int .i64 0] (.int .i64 1) rfl rfl rfl rfl Tryz.underlying27 rfl (by kernel_rfl) (row_of_cells 4 _ rfl (by intro i hi; rcases i with _ | _ | _ | _ | _ | i; (go_simp); (go_simp); (go_simp); (go_simp); (go_simp); exact absurd hi (by omega))) ⟨by rw [EV.out]; rfl, below_byR⟩
      · rw [hm, if_pos ⟨rfl, by omega, by omega⟩] at E
        by_cases h3 : r = 0
        · subst h3
          have EV : Hid (growE ⟨x, y, a, b, d⟩ 0 = (⟨x, y, a, b, d⟩, 0)) := by show _ = _; rw [E, if_pos rfl]
          clear E hm h1 h2
          go_enter Tryz.func65, Tryz.ntmps65
          go_wp2_with fail
          refine (rmaye_v _ _ _ _ _ _ HM.out _).mono ?_; rintro e w1 ⟨rfl, hb1⟩; have z_w1 := hb1.size; (try simp at z_w1); obtain ⟨y_w1_0_0, c_w1_0_0, f_w1_0_0, r_w1_0_0, t_w1_0_0, p_w1_0_0⟩ := bq hb1 (w.heap.size); obtain ⟨y_w1_0_1, c_w1_0_1, f_w1_0_1, r_w1_0_1, t_w1_0_1, p_w1_0_1⟩ := bq hb1 (w.heap.size + 1)
          go_wp2_with fail
          exact bodyPost_row_t 5 #[.int .i64 x, .int .i64 y, .int .i64 a, .int .i64 b, .int .i64 d] (.int .i64 0) rfl rfl rfl rfl Tryz.underlying27 rfl (by kernel_rfl) (row_of_cells 4 _ rfl (by intro i hi; rcases i with _ | _ | _ | _ | _ | i; (go_simp); (go_simp); (go_simp); (go_simp); (go_simp); exact absurd hi (by omega))) ⟨by rw [EV.out], below_byR⟩
        · rw [if_neg h3] at E
          have hb : ballE 0 0 r = (⟨0, 0, r * r, 0, r * r⟩, 0) := by unfold ballE; rw [if_pos ⟨by decide, by omega, by omega⟩]
          rw [hb] at E
          obtain ⟨s, hs⟩ : ∃ s, s = r * r := ⟨_, rfl⟩
          simp only [← hs] at hb E
          obtain ⟨⟨ox, oy, oa, ob, od⟩, k, ho⟩ : ∃ o k, sumE ⟨x, y, a, b, d⟩ ⟨0, 0, s, 0, s⟩ = (o, k) := ⟨_, _, rfl⟩
          have EV : Hid (growE ⟨x, y, a, b, d⟩ r = (⟨ox, oy, oa, ob, od⟩, k)) := by show _ = _; rw [E, ho]
          have HB := Lib.hid hb
          have HO := Lib.hid ho
          clear E hm hb ho hs
          go_enter Tryz.func65, Tryz.ntmps65
          go_wp2_with fail
          refine (rmaye_v _ _ _ _ _ _ HM.out _).mono ?_; rintro e w1 ⟨rfl, hb1⟩; have z_w1 := hb1.size; (try simp at z_w1); obtain ⟨y_w1_0_0, c_w1_0_0, f_w1_0_0, r_w1_0_0, t_w1_0_0, p_w1_0_0⟩ := bq hb1 (w.heap.size); obtain ⟨y_w1_0_1, c_w1_0_1, f_w1_0_1, r_w1_0_1, t_w1_0_1, p_w1_0_1⟩ := bq hb1 (w.heap.size + 1)
          go_wp2_with fail
          refine (rball_v _ _ _ _ _ _ _ _ _ HB.out _).mono ?_; rintro e w2 ⟨rfl, hb2⟩; have z_w2 := hb2.size; (try simp at z_w2); obtain ⟨y_w2_0_0, c_w2_0_0, f_w2_0_0, r_w2_0_0, t_w2_0_0, p_w2_0_0⟩ := bq hb2 (w.heap.size); obtain ⟨y_w2_0_1, c_w2_0_1, f_w2_0_1, r_w2_0_1, t_w2_0_1, p_w2_0_1⟩ := bq hb2 (w.heap.size + 1)
          go_wp2_with fail
          refine (rsum_v _ _ _ _ _ _ _ _ _ _ _ _ HO.out _).mono ?_; rintro e w3 ⟨rfl, hb3⟩; have z_w3 := hb3.size; (try simp at z_w3); obtain ⟨y_w3_0_0, c_w3_0_0, f_w3_0_0, r_w3_0_0, t_w3_0_0, p_w3_0_0⟩ := bq hb3 (w.heap.size); obtain ⟨y_w3_0_1, c_w3_0_1, f_w3_0_1, r_w3_0_1, t_w3_0_1, p_w3_0_1⟩ := bq hb3 (w.heap.size + 1)
          go_wp2_with fail
          exact bodyPost_row_t 5 #[.int .i64 ox, .int .i64 oy, .int .i64 oa, .int .i64 ob, .int .i64 od] (.int .i64 k) rfl rfl rfl rfl Tryz.underlying27 rfl (by kernel_rfl) (row_of_cells 4 _ rfl (by intro i hi; rcases i with _ | _ | _ | _ | _ | i; (go_simp); (go_simp); (go_simp); (go_simp); (go_simp); exact absurd hi (by omega))) ⟨by rw [EV.out], below_byR⟩
theorem rgrow_v (x y a b d r x' y' a' b' d' k : Int) (h : growE ⟨x, y, a, b, d⟩ r = (⟨x', y', a', b', d'⟩, k)) (w : World) :
    Calls Tryz.prog 65 #[elC x y a b d, .int .i64 r] w fun e w' => e = .returned (.tuple #[elC x' y' a' b' d', .int .i64 k]) ∧ Below w.heap.size w w' := by
  have := rgrow_c x y a b d r w
  rw [h] at this; exact this
end Go.Proofs.YtnoidlacjiafdaaGreat
