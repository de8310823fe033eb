/- The walks of package ellip: In, radius, Ball, Trace, Radius. -/
import Derived.Test.YtfohihjeemmedaaE1
import Derived.Test.YtfohihjeemmedaaU0
namespace Go.Proofs.Ytfohihjeemmedaa
open Go.RowKit

theorem ellmay_e (e : El) (m : Bool) (h : e.may = m) (w : World) :
    Calls Try.prog 11 #[elV e] w fun r w' => r = .returned (.bool m) ∧ Below w.heap.size w w' := by
  subst h; exact ellmay_c e.x e.y e.a e.b e.d w

set_option maxHeartbeats 2000000 in
theorem ellin_c (x y a b d p q : Int) (w : World) :
    Calls Try.prog 14 #[elC x y a b d, ptV p q] w fun e w' => e = .returned (.bool (El.has ⟨x, y, a, b, d⟩ p q)) ∧ Below w.heap.size w w' := by
  obtain ⟨m, hm⟩ : ∃ m, m = El.may ⟨x, y, a, b, d⟩ := ⟨_, rfl⟩
  obtain ⟨n, hn⟩ : ∃ n, n = withinB p q 1073741824 := ⟨_, rfl⟩
  have E : Hid (El.has ⟨x, y, a, b, d⟩ p q = (m && n && holdsB a b d (p - x) (q - y))) := by
    show _ = _; rw [hm, hn]; rfl
  have HM := Lib.hid hm.symm
  have HN := Lib.hid hn.symm
  cases m with
  | false =>
    clear hm hn
    go_enter Try.func14, Try.ntmps14
    go_wp2_with fail
    refine (ellmay_c _ _ _ _ _ _).mono ?_; rintro e w1 ⟨rfl, hb1⟩; rw [HM.out]; have z_w1 := hb1.size; (try simp at z_w1); obtain ⟨y_w1_0_0, c_w1_0_0, f_w1_0_0, r_w1_0_0, t_w1_0_0, p_w1_0_0⟩ := bk hb1 (w.heap.size) (by first | omega | (simp; done) | (simp; omega) | fail); obtain ⟨y_w1_0_1, c_w1_0_1, f_w1_0_1, r_w1_0_1, t_w1_0_1, p_w1_0_1⟩ := bk hb1 (w.heap.size + 1) (by first | omega | (simp; done) | (simp; omega) | fail)
    go_wp2
    go_ret
    exact ⟨by rw [E.out]; rfl, (by repeat (first | with_reducible exact Below.refl _ _ | with_reducible exact Below_of_hid (by assumption) | with_reducible refine Below.drew ?_ | with_reducible refine below_drewN ?_ _ | (with_reducible refine Below_putRow ?_ ?hB _ _; case hB => (first | omega | (simp; done) | (simp; omega))) | (with_reducible refine Below.alloc ?_ ?hB _; case hB => (first | omega | (simp; done) | (simp; omega))) | (with_reducible refine Below.setCell ?_ ?hB _; case hB => (first | omega | (simp; done) | (simp; omega))) | (with_reducible refine Below.trans ?_ (Below.mono (by assumption) ?hB); case hB => (first | omega | (simp; done) | (simp; omega)))))⟩
  | true =>
    cases n with
    | false =>
      clear hm hn
      go_enter Try.func14, Try.ntmps14
      go_wp2_with fail
      refine (ellmay_c _ _ _ _ _ _).mono ?_; rintro e w1 ⟨rfl, hb1⟩; rw [HM.out]; have z_w1 := hb1.size; (try simp at z_w1); obtain ⟨y_w1_0_0, c_w1_0_0, f_w1_0_0, r_w1_0_0, t_w1_0_0, p_w1_0_0⟩ := bk hb1 (w.heap.size) (by first | omega | (simp; done) | (simp; omega) | fail); obtain ⟨y_w1_0_1, c_w1_0_1, f_w1_0_1, r_w1_0_1, t_w1_0_1, p_w1_0_1⟩ := bk hb1 (w.heap.size + 1) (by first | omega | (simp; done) | (simp; omega) | fail)
      go_wp2_with fail
      refine (within_c _ _ _ (by decide) _).mono ?_; rintro e w2 ⟨rfl, hb2⟩; rw [HN.out]; have z_w2 := hb2.size; (try simp at z_w2); obtain ⟨y_w2_0_0, c_w2_0_0, f_w2_0_0, r_w2_0_0, t_w2_0_0, p_w2_0_0⟩ := bk hb2 (w.heap.size) (by first | omega | (simp; done) | (simp; omega) | fail); obtain ⟨y_w2_0_1, c_w2_0_1, f_w2_0_1, r_w2_0_1, t_w2_0_1, p_w2_0_1⟩ := bk hb2 (w.heap.size + 1) (by first | omega | (simp; done) | (simp; omega) | fail)
      go_wp2
      go_ret
      exact ⟨by rw [E.out]; rfl, (by repeat (first | with_reducible exact Below.refl _ _ | with_reducible exact Below_of_hid (by assumption) | with_reducible refine Below.drew ?_ | with_reducible refine below_drewN ?_ _ | (with_reducible refine Below_putRow ?_ ?hB _ _; case hB => (first | omega | (simp; done) | (simp; omega))) | (with_reducible refine Below.alloc ?_ ?hB _; case hB => (first | omega | (simp; done) | (simp; omega))) | (with_reducible refine Below.setCell ?_ ?hB _; case hB => (first | omega | (simp; done) | (simp; omega))) | (with_reducible refine Below.trans ?_ (Below.mono (by assumption) ?hB); case hB => (first | omega | (simp; done) | (simp; omega)))))⟩
    | true =>
      have B := (El.may_iff _).1 hm.symm
      have C : -1073741824 ≤ p ∧ p ≤ 1073741824 ∧ -1073741824 ≤ q ∧ q ≤ 1073741824 := by simpa [withinB] using hn.symm
      obtain ⟨⟨b1, b2, b3, b4⟩, ⟨b5, b6, b7, b8, b9, b10⟩, -⟩ := B
      obtain ⟨c1, c2, c3, c4⟩ := C
      simp only at b1 b2 b3 b4 b5 b6 b7 b8 b9 b10
      have K : Hid (I64 a ∧ I64 b ∧ I64 d ∧ I64 (p - x) ∧ I64 (q - y)) := by unfold Hid I64; omega
      clear hm hn b5 b6 b7 b8 b9 b10
      go_enter Try.func14, Try.ntmps14
      go_wp2_with fail
      refine (ellmay_c _ _ _ _ _ _).mono ?_; rintro e w1 ⟨rfl, hb1⟩; rw [HM.out]; have z_w1 := hb1.size; (try simp at z_w1); obtain ⟨y_w1_0_0, c_w1_0_0, f_w1_0_0, r_w1_0_0, t_w1_0_0, p_w1_0_0⟩ := bk hb1 (w.heap.size) (by first | omega | (simp; done) | (simp; omega) | fail); obtain ⟨y_w1_0_1, c_w1_0_1, f_w1_0_1, r_w1_0_1, t_w1_0_1, p_w1_0_1⟩ := bk hb1 (w.heap.size + 1) (by first | omega | (simp; done) | (simp; omega) | fail)
      go_wp2_with fail
      refine (within_c _ _ _ (by decide) _).mono ?_; rintro e w2 ⟨rfl, hb2⟩; rw [HN.out]; have z_w2 := hb2.size; (try simp at z_w2); obtain ⟨y_w2_0_0, c_w2_0_0, f_w2_0_0, r_w2_0_0, t_w2_0_0, p_w2_0_0⟩ := bk hb2 (w.heap.size) (by first | omega | (simp; done) | (simp; omega) | fail); obtain ⟨y_w2_0_1, c_w2_0_1, f_w2_0_1, r_w2_0_1, t_w2_0_1, p_w2_0_1⟩ := bk hb2 (w.heap.size + 1) (by first | omega | (simp; done) | (simp; omega) | fail)
      go_wp2_with fail
      refine (holds_c _ _ _ _ _ K.out.1 K.out.2.1 K.out.2.2.1 K.out.2.2.2.1 K.out.2.2.2.2 _).mono ?_; rintro e w3 ⟨rfl, hb3⟩; have z_w3 := hb3.size; (try simp at z_w3); obtain ⟨y_w3_0_0, c_w3_0_0, f_w3_0_0, r_w3_0_0, t_w3_0_0, p_w3_0_0⟩ := bk hb3 (w.heap.size) (by first | omega | (simp; done) | (simp; omega) | fail); obtain ⟨y_w3_0_1, c_w3_0_1, f_w3_0_1, r_w3_0_1, t_w3_0_1, p_w3_0_1⟩ := bk hb3 (w.heap.size + 1) (by first | omega | (simp; done) | (simp; omega) | fail)
      go_wp2
      go_ret
      exact ⟨by rw [E.out]; rfl, (by repeat (first | with_reducible exact Below.refl _ _ | with_reducible exact Below_of_hid (by assumption) | with_reducible refine Below.drew ?_ | with_reducible refine below_drewN ?_ _ | (with_reducible refine Below_putRow ?_ ?hB _ _; case hB => (first | omega | (simp; done) | (simp; omega))) | (with_reducible refine Below.alloc ?_ ?hB _; case hB => (first | omega | (simp; done) | (simp; omega))) | (with_reducible refine Below.setCell ?_ ?hB _; case hB => (first | omega | (simp; done) | (simp; omega))) | (with_reducible refine Below.trans ?_ (Below.mono (by assumption) ?hB); case hB => (first | omega | (simp; done) | (simp; omega)))))⟩

def radB (r : Int) : Bool := decide (1 ≤ r) && decide (r ≤ 4194304)
theorem radius_c (r : Int) (w : World) :
    Calls Try.prog 36 #[.int .i64 r] w fun e w' => e = .returned (.bool (radB r)) ∧ Below w.heap.size w w' := by
  have E : radB r = (decide (1 ≤ r) && decide (r ≤ 4194304)) := rfl
  by_cases h1 : 1 ≤ r
  · have EV : Hid (radB r = decide (r ≤ 4194304)) := by show _ = _; rw [E]; simp [h1]
    clear E
    go_enter Try.func36, Try.ntmps36
    go_wp2
    go_ret
    exact ⟨by rw [EV.out]; rfl, (by repeat (first | with_reducible exact Below.refl _ _ | with_reducible exact Below_of_hid (by assumption) | with_reducible refine Below.drew ?_ | with_reducible refine below_drewN ?_ _ | (with_reducible refine Below_putRow ?_ ?hB _ _; case hB => (first | omega | (simp; done) | (simp; omega))) | (with_reducible refine Below.alloc ?_ ?hB _; case hB => (first | omega | (simp; done) | (simp; omega))) | (with_reducible refine Below.setCell ?_ ?hB _; case hB => (first | omega | (simp; done) | (simp; omega))) | (with_reducible refine Below.trans ?_ (Below.mono (by assumption) ?hB); case hB => (first | omega | (simp; done) | (simp; omega)))))⟩
  · have EV : Hid (radB r = false) := by show _ = _; rw [E]; simp [h1]
    clear E
    go_enter Try.func36, Try.ntmps36
    go_wp2
    go_ret
    exact ⟨by rw [EV.out]; rfl, (by repeat (first | with_reducible exact Below.refl _ _ | with_reducible exact Below_of_hid (by assumption) | with_reducible refine Below.drew ?_ | with_reducible refine below_drewN ?_ _ | (with_reducible refine Below_putRow ?_ ?hB _ _; case hB => (first | omega | (simp; done) | (simp; omega))) | (with_reducible refine Below.alloc ?_ ?hB _; case hB => (first | omega | (simp; done) | (simp; omega))) | (with_reducible refine Below.setCell ?_ ?hB _; case hB => (first | omega | (simp; done) | (simp; omega))) | (with_reducible refine Below.trans ?_ (Below.mono (by assumption) ?hB); case hB => (first | omega | (simp; done) | (simp; omega)))))⟩

set_option maxHeartbeats 2000000 in
theorem ellball_c (x y r : Int) (w : World) :
    Calls Try.prog 16 #[ptV x y, .int .i64 r] w fun e w' => e = .returned (.tuple #[elV (ballE x y r).1, .int .i64 (ballE x y r).2]) ∧ Below w.heap.size w w' := by
  have E : Hid (ballE x y r = if mayPt x y = true ∧ 1 ≤ r ∧ r ≤ 4194304 then (⟨x, y, r * r, 0, r * r⟩, 0) else (El.zero, 1)) := rfl
  obtain ⟨m, hm⟩ : ∃ m, m = mayPt x y := ⟨_, rfl⟩
  have HM := Lib.hid hm.symm
  clear hm
  rw [HM.out] at E
  cases m with
  | false =>
    go_enter Try.func16, Try.ntmps16
    go_wp2_with fail
    refine (maypt_c _ _ _).mono ?_; rintro e w1 ⟨rfl, hb1⟩; rw [HM.out]; have z_w1 := hb1.size; (try simp at z_w1); obtain ⟨y_w1_0_0, c_w1_0_0, f_w1_0_0, r_w1_0_0, t_w1_0_0, p_w1_0_0⟩ := bk hb1 (w.heap.size) (by first | omega | (simp; done) | (simp; omega) | fail); obtain ⟨y_w1_0_1, c_w1_0_1, f_w1_0_1, r_w1_0_1, t_w1_0_1, p_w1_0_1⟩ := bk hb1 (w.heap.size + 1) (by first | omega | (simp; done) | (simp; omega) | fail)
    go_wp2
    exact bodyPost_row_t 5 #[.int .i64 0, .int .i64 0, .int .i64 0, .int .i64 0, .int .i64 0] (.int .i64 1) rfl rfl rfl rfl Try.underlying27 rfl (by kernel_rfl) (row_of_cells 4 _ rfl (by intro i hi; rcases i with _ | _ | _ | _ | _ | i; (go_simp); (go_simp); (go_simp); (go_simp); (go_simp); exact absurd hi (by omega))) ⟨by rw [E.out]; rfl, (by repeat (first | with_reducible exact Below.refl _ _ | with_reducible exact Below_of_hid (by assumption) | with_reducible refine Below.drew ?_ | with_reducible refine below_drewN ?_ _ | (with_reducible refine Below_putRow ?_ ?hB _ _; case hB => (first | omega | (simp; done) | (simp; omega))) | (with_reducible refine Below.alloc ?_ ?hB _; case hB => (first | omega | (simp; done) | (simp; omega))) | (with_reducible refine Below.setCell ?_ ?hB _; case hB => (first | omega | (simp; done) | (simp; omega))) | (with_reducible refine Below.trans ?_ (Below.mono (by assumption) ?hB); case hB => (first | omega | (simp; done) | (simp; omega)))))⟩
  | true =>
    obtain ⟨n, hn⟩ : ∃ n, n = radB r := ⟨_, rfl⟩
    have HN := Lib.hid hn.symm
    cases n with
    | false =>
      have E2 : Hid (ballE x y r = (El.zero, 1)) := by
        have h := hn.symm
        show _ = _; rw [E.out, if_neg]; rintro ⟨-, h1, h2⟩; simp [radB, h1, h2] at h
      clear hn
      go_enter Try.func16, Try.ntmps16
      go_wp2_with fail
      refine (maypt_c _ _ _).mono ?_; rintro e w1 ⟨rfl, hb1⟩; rw [HM.out]; have z_w1 := hb1.size; (try simp at z_w1); obtain ⟨y_w1_0_0, c_w1_0_0, f_w1_0_0, r_w1_0_0, t_w1_0_0, p_w1_0_0⟩ := bk hb1 (w.heap.size) (by first | omega | (simp; done) | (simp; omega) | fail); obtain ⟨y_w1_0_1, c_w1_0_1, f_w1_0_1, r_w1_0_1, t_w1_0_1, p_w1_0_1⟩ := bk hb1 (w.heap.size + 1) (by first | omega | (simp; done) | (simp; omega) | fail)
      go_wp2_with fail
      refine (radius_c _ _).mono ?_; rintro e w2 ⟨rfl, hb2⟩; rw [HN.out]; have z_w2 := hb2.size; (try simp at z_w2); obtain ⟨y_w2_0_0, c_w2_0_0, f_w2_0_0, r_w2_0_0, t_w2_0_0, p_w2_0_0⟩ := bk hb2 (w.heap.size) (by first | omega | (simp; done) | (simp; omega) | fail); obtain ⟨y_w2_0_1, c_w2_0_1, f_w2_0_1, r_w2_0_1, t_w2_0_1, p_w2_0_1⟩ := bk hb2 (w.heap.size + 1) (by first | omega | (simp; done) | (simp; omega) | fail)
      go_wp2
      exact bodyPost_row_t 5 #[.int .i64 0, .int .i64 0, .int .i64 0, .int .i64 0, .int .i64 0] (.int .i64 1) rfl rfl rfl rfl Try.underlying27 rfl (by kernel_rfl) (row_of_cells 4 _ rfl (by intro i hi; rcases i with _ | _ | _ | _ | _ | i; (go_simp); (go_simp); (go_simp); (go_simp); (go_simp); exact absurd hi (by omega))) ⟨by rw [E2.out]; rfl, (by repeat (first | with_reducible exact Below.refl _ _ | with_reducible exact Below_of_hid (by assumption) | with_reducible refine Below.drew ?_ | with_reducible refine below_drewN ?_ _ | (with_reducible refine Below_putRow ?_ ?hB _ _; case hB => (first | omega | (simp; done) | (simp; omega))) | (with_reducible refine Below.alloc ?_ ?hB _; case hB => (first | omega | (simp; done) | (simp; omega))) | (with_reducible refine Below.setCell ?_ ?hB _; case hB => (first | omega | (simp; done) | (simp; omega))) | (with_reducible refine Below.trans ?_ (Below.mono (by assumption) ?hB); case hB => (first | omega | (simp; done) | (simp; omega)))))⟩
    | true =>
      have hr : 1 ≤ r ∧ r ≤ 4194304 := by simpa [radB] using hn.symm
      have E2 : Hid (ballE x y r = (⟨x, y, r * r, 0, r * r⟩, 0)) := by
        show _ = _; rw [E.out, if_pos ⟨rfl, hr⟩]
      obtain ⟨s, hs⟩ : ∃ s, s = r * r := ⟨_, rfl⟩
      have k2 : r * r ≤ 4194304 * 4194304 := Int.mul_le_mul hr.2 hr.2 (by omega) (by decide)
      have k3 := int_sq_nonneg r
      rw [← hs] at E2 k2 k3
      have e1 : r * r = s := hs.symm
      clear hn hs
      go_enter Try.func16, Try.ntmps16
      go_wp2_with fail
      refine (maypt_c _ _ _).mono ?_; rintro e w1 ⟨rfl, hb1⟩; rw [HM.out]; have z_w1 := hb1.size; (try simp at z_w1); obtain ⟨y_w1_0_0, c_w1_0_0, f_w1_0_0, r_w1_0_0, t_w1_0_0, p_w1_0_0⟩ := bk hb1 (w.heap.size) (by first | omega | (simp; done) | (simp; omega) | fail); obtain ⟨y_w1_0_1, c_w1_0_1, f_w1_0_1, r_w1_0_1, t_w1_0_1, p_w1_0_1⟩ := bk hb1 (w.heap.size + 1) (by first | omega | (simp; done) | (simp; omega) | fail)
      go_wp2_with fail
      refine (radius_c _ _).mono ?_; rintro e w2 ⟨rfl, hb2⟩; rw [HN.out]; have z_w2 := hb2.size; (try simp at z_w2); obtain ⟨y_w2_0_0, c_w2_0_0, f_w2_0_0, r_w2_0_0, t_w2_0_0, p_w2_0_0⟩ := bk hb2 (w.heap.size) (by first | omega | (simp; done) | (simp; omega) | fail); obtain ⟨y_w2_0_1, c_w2_0_1, f_w2_0_1, r_w2_0_1, t_w2_0_1, p_w2_0_1⟩ := bk hb2 (w.heap.size + 1) (by first | omega | (simp; done) | (simp; omega) | fail)
      go_wp2
      exact bodyPost_row_t 5 #[.int .i64 x, .int .i64 y, .int .i64 s, .int .i64 0, .int .i64 s] (.int .i64 0) rfl rfl rfl rfl Try.underlying27 rfl (by kernel_rfl) (row_of_cells 4 _ rfl (by intro i hi; rcases i with _ | _ | _ | _ | _ | i; (go_simp); (go_simp); (go_simp); (go_simp); (go_simp); exact absurd hi (by omega))) ⟨by rw [E2.out], (by repeat (first | with_reducible exact Below.refl _ _ | with_reducible exact Below_of_hid (by assumption) | with_reducible refine Below.drew ?_ | with_reducible refine below_drewN ?_ _ | (with_reducible refine Below_putRow ?_ ?hB _ _; case hB => (first | omega | (simp; done) | (simp; omega))) | (with_reducible refine Below.alloc ?_ ?hB _; case hB => (first | omega | (simp; done) | (simp; omega))) | (with_reducible refine Below.setCell ?_ ?hB _; case hB => (first | omega | (simp; done) | (simp; omega))) | (with_reducible refine Below.trans ?_ (Below.mono (by assumption) ?hB); case hB => (first | omega | (simp; done) | (simp; omega)))))⟩

set_option maxHeartbeats 1000000 in
theorem trace_c (x y a b d : Int) (w : World) :
    Calls Try.prog 13 #[elC x y a b d] w fun e w' => e = .returned (.int .i64 (El.tr ⟨x, y, a, b, d⟩)) ∧ Below w.heap.size w w' := by
  have E : Hid (El.tr ⟨x, y, a, b, d⟩ = if El.may ⟨x, y, a, b, d⟩ = true then a + d else 0) := rfl
  obtain ⟨m, hm⟩ : ∃ m, m = El.may ⟨x, y, a, b, d⟩ := ⟨_, rfl⟩
  have HM := Lib.hid hm.symm
  rw [HM.out] at E
  cases m with
  | false =>
    clear hm
    go_enter Try.func13, Try.ntmps13
    go_wp2_with fail
    refine (ellmay_c _ _ _ _ _ _).mono ?_; rintro e w1 ⟨rfl, hb1⟩; rw [HM.out]; have z_w1 := hb1.size; (try simp at z_w1); obtain ⟨y_w1_0_0, c_w1_0_0, f_w1_0_0, r_w1_0_0, t_w1_0_0, p_w1_0_0⟩ := bk hb1 (w.heap.size) (by first | omega | (simp; done) | (simp; omega) | fail)
    go_wp2
    go_ret
    exact ⟨by rw [E.out]; rfl, (by repeat (first | with_reducible exact Below.refl _ _ | with_reducible exact Below_of_hid (by assumption) | with_reducible refine Below.drew ?_ | with_reducible refine below_drewN ?_ _ | (with_reducible refine Below_putRow ?_ ?hB _ _; case hB => (first | omega | (simp; done) | (simp; omega))) | (with_reducible refine Below.alloc ?_ ?hB _; case hB => (first | omega | (simp; done) | (simp; omega))) | (with_reducible refine Below.setCell ?_ ?hB _; case hB => (first | omega | (simp; done) | (simp; omega))) | (with_reducible refine Below.trans ?_ (Below.mono (by assumption) ?hB); case hB => (first | omega | (simp; done) | (simp; omega)))))⟩
  | true =>
    obtain ⟨-, ⟨b5, b6, b7, b8, -, -⟩, -⟩ := (El.may_iff _).1 hm.symm
    simp only at b5 b6 b7 b8
    clear hm
    go_enter Try.func13, Try.ntmps13
    go_wp2_with fail
    refine (ellmay_c _ _ _ _ _ _).mono ?_; rintro e w1 ⟨rfl, hb1⟩; rw [HM.out]; have z_w1 := hb1.size; (try simp at z_w1); obtain ⟨y_w1_0_0, c_w1_0_0, f_w1_0_0, r_w1_0_0, t_w1_0_0, p_w1_0_0⟩ := bk hb1 (w.heap.size) (by first | omega | (simp; done) | (simp; omega) | fail)
    go_wp2
    go_ret
    exact ⟨by rw [E.out]; rfl, (by repeat (first | with_reducible exact Below.refl _ _ | with_reducible exact Below_of_hid (by assumption) | with_reducible refine Below.drew ?_ | with_reducible refine below_drewN ?_ _ | (with_reducible refine Below_putRow ?_ ?hB _ _; case hB => (first | omega | (simp; done) | (simp; omega))) | (with_reducible refine Below.alloc ?_ ?hB _; case hB => (first | omega | (simp; done) | (simp; omega))) | (with_reducible refine Below.setCell ?_ ?hB _; case hB => (first | omega | (simp; done) | (simp; omega))) | (with_reducible refine Below.trans ?_ (Below.mono (by assumption) ?hB); case hB => (first | omega | (simp; done) | (simp; omega)))))⟩
theorem El.tr_le (e : El) : 0 ≤ e.tr ∧ e.tr ≤ 140737488355328 := by
  unfold El.tr; split
  · rename_i h; have := (El.may_iff e).1 h; omega
  · decide

set_option maxHeartbeats 1000000 in
theorem ellrad_c (x y a b d : Int) (w : World) :
    Calls Try.prog 26 #[elC x y a b d] w fun e w' => e = .returned (.int .i64 (El.rad ⟨x, y, a, b, d⟩)) ∧ Below w.heap.size w w' := by
  obtain ⟨m, hm⟩ : ∃ m, m = El.tr ⟨x, y, a, b, d⟩ := ⟨_, rfl⟩
  have h := El.tr_le ⟨x, y, a, b, d⟩
  rw [← hm] at h
  obtain ⟨n, hn⟩ : ∃ n : Nat, m = n := ⟨m.toNat, by omega⟩
  subst hn
  have HM := Lib.hid hm.symm
  have HR : Hid (El.rad ⟨x, y, a, b, d⟩ = (up n : Nat)) := by show _ = _; unfold El.rad; rw [HM.out]; rfl
  have HL : Hid (n ≤ 9223372036854775807) := by show n ≤ _; omega
  clear hm h
  go_enter Try.func26, Try.ntmps26
  go_wp2_with fail
  refine (trace_c _ _ _ _ _ _).mono ?_; rintro e w1 ⟨rfl, hb1⟩; rw [HM.out]; have z_w1 := hb1.size; (try simp at z_w1); obtain ⟨y_w1_0_0, c_w1_0_0, f_w1_0_0, r_w1_0_0, t_w1_0_0, p_w1_0_0⟩ := bk hb1 (w.heap.size) (by first | omega | (simp; done) | (simp; omega) | fail)
  go_wp2_with fail
  refine (rup_v n _ HL.out rfl _).mono ?_; rintro e w2 ⟨rfl, hb2⟩; have z_w2 := hb2.size; (try simp at z_w2); obtain ⟨y_w2_0_0, c_w2_0_0, f_w2_0_0, r_w2_0_0, t_w2_0_0, p_w2_0_0⟩ := bk hb2 (w.heap.size) (by first | omega | (simp; done) | (simp; omega) | fail)
  go_wp2
  go_ret
  exact ⟨by rw [HR.out]; rfl, (by repeat (first | with_reducible exact Below.refl _ _ | with_reducible exact Below_of_hid (by assumption) | with_reducible refine Below.drew ?_ | with_reducible refine below_drewN ?_ _ | (with_reducible refine Below_putRow ?_ ?hB _ _; case hB => (first | omega | (simp; done) | (simp; omega))) | (with_reducible refine Below.alloc ?_ ?hB _; case hB => (first | omega | (simp; done) | (simp; omega))) | (with_reducible refine Below.setCell ?_ ?hB _; case hB => (first | omega | (simp; done) | (simp; omega))) | (with_reducible refine Below.trans ?_ (Below.mono (by assumption) ?hB); case hB => (first | omega | (simp; done) | (simp; omega)))))⟩
end Go.Proofs.Ytfohihjeemmedaa
