/- The walks of ellip.Shift, InfoShifts. -/
import Derived.Test.YtjfphfnfbgmlfaaIC
import Derived.BigRegion
namespace Go.Proofs.Ytjfphfnfbgmlfaa
open Go.RowKit

def shiftE (e : El) (u v : Int) : El × Int := if e.may = true ∧ withinB u v 4194304 = true then (if mayPt (e.x + u) (e.y + v) = true then (e.sh u v, 0) else (El.zero, 2)) else (El.zero, 1)
theorem shift_cases (e : El) (u v : Int) : (e.may = false ∧ shiftE e u v = (El.zero, 1)) ∨ (e.may = true ∧ withinB u v 4194304 = false ∧ shiftE e u v = (El.zero, 1)) ∨
    (e.may = true ∧ withinB u v 4194304 = true ∧ mayPt (e.x + u) (e.y + v) = false ∧ shiftE e u v = (El.zero, 2)) ∨ (e.may = true ∧ withinB u v 4194304 = true ∧ mayPt (e.x + u) (e.y + v) = true ∧ shiftE e u v = (e.sh u v, 0)) := by
  unfold shiftE
  cases h1 : e.may <;> cases h2 : withinB u v 4194304 <;> cases h3 : mayPt (e.x + u) (e.y + v) <;> simp
theorem shift_ok {e o : El} {u v : Int} (h : shiftE e u v = (o, 0)) : e.may = true ∧ o = e.sh u v ∧ (e.sh u v).may = true ∧ withinB u v 4194304 = true := by
  rcases shift_cases e u v with ⟨_, h1⟩ | ⟨_, _, h1⟩ | ⟨_, _, _, h1⟩ | ⟨h2, h3, h4, h1⟩
  · rw [h1] at h; injection h with _ h; cases h
  · rw [h1] at h; injection h with _ h; cases h
  · rw [h1] at h; injection h with _ h; cases h
  · rw [h1] at h; injection h with h _
    refine ⟨h2, h.symm, ?_, h3⟩
    have m := (El.may_iff e).1 h2
    exact (El.may_iff _).2 ⟨(mayPt_iff _ _).1 h4, m.2.1, m.2.2⟩
theorem within_v (x y m : Int) (k : Bool) (hm : 0 ≤ m ∧ m ≤ 9223372036854775807) (h : withinB x y m = k) (w : World) :
    Calls Try.prog 39 #[ptV x y, .int .i64 m] w fun e w' => e = .returned (.bool k) ∧ Below w.heap.size w w' := by
  subst h; exact within_c x y m hm w
theorem maypt_v (x y : Int) (k : Bool) (h : mayPt x y = k) (w : World) :
    Calls Try.prog 35 #[ptV x y] w fun e w' => e = .returned (.bool k) ∧ Below w.heap.size w w' := by
  subst h; exact maypt_c x y w
set_option maxRecDepth 100000 in
set_option maxHeartbeats 4000000 in
theorem shift_c (x y a b d u v : Int) (w : World) :
    Calls Try.prog 17 #[elC x y a b d, ptV u v] w fun r w' => r = .returned (.tuple #[elV (shiftE ⟨x, y, a, b, d⟩ u v).1, .int .i64 (shiftE ⟨x, y, a, b, d⟩ u v).2]) ∧ Below w.heap.size w w' := by
  rcases shift_cases ⟨x, y, a, b, d⟩ u v with ⟨h1, h0⟩ | ⟨h1, h2, h0⟩ | ⟨h1, h2, h3, h0⟩ | ⟨h1, h2, h3, h0⟩
  · have H1 := Lib.hid h1
    have EV := Lib.hid h0
    clear h1 h0
    go_enter Try.func17, Try.ntmps17
    go_wp2_with fail
    refine (ellmay_v _ _ _ _ _ _ H1.out _).mono ?_; rintro e w1 ⟨rfl, hb1⟩; have z_w1 := hb1.size; (try simp at z_w1); obtain ⟨y_w1_0_0, c_w1_0_0, f_w1_0_0, r_w1_0_0, t_w1_0_0, p_w1_0_0⟩ := bk hb1 (w.heap.size) (by first | omega | (simp; done) | (simp; omega) | fail); obtain ⟨y_w1_0_1, c_w1_0_1, f_w1_0_1, r_w1_0_1, t_w1_0_1, p_w1_0_1⟩ := bk hb1 (w.heap.size + 1) (by first | omega | (simp; done) | (simp; omega) | fail); obtain ⟨y_w1_0_2, c_w1_0_2, f_w1_0_2, r_w1_0_2, t_w1_0_2, p_w1_0_2⟩ := bk hb1 (w.heap.size + 1 + 1) (by first | omega | (simp; done) | (simp; omega) | fail)
    go_wp2_with fail
    exact bodyPost_row_t 5 #[.int .i64 0, .int .i64 0, .int .i64 0, .int .i64 0, .int .i64 0] (.int .i64 1) rfl rfl rfl rfl Try.underlying27 rfl (by kernel_rfl) (row_of_cells 4 _ rfl (by intro i hi; rcases i with _ | _ | _ | _ | _ | i; (go_simp); (go_simp); (go_simp); (go_simp); (go_simp); exact absurd hi (by omega))) ⟨by rw [EV.out]; rfl, (by repeat (first | with_reducible exact Below.refl _ _ | with_reducible exact Below_of_hid (by assumption) | with_reducible refine Below.drew ?_ | with_reducible refine below_drewN ?_ _ | (with_reducible refine Below_putRow ?_ ?hB _ _; case hB => (first | omega | (simp; done) | (simp; omega))) | (with_reducible refine Below.alloc ?_ ?hB _; case hB => (first | omega | (simp; done) | (simp; omega))) | (with_reducible refine Below.setCell ?_ ?hB _; case hB => (first | omega | (simp; done) | (simp; omega))) | (with_reducible refine Below.trans ?_ (Below.mono (by assumption) ?hB); case hB => (first | omega | (simp; done) | (simp; omega)))))⟩
  · have H1 := Lib.hid h1
    have H2 := Lib.hid h2
    have EV := Lib.hid h0
    clear h1 h2 h0
    go_enter Try.func17, Try.ntmps17
    go_wp2_with fail
    refine (ellmay_v _ _ _ _ _ _ H1.out _).mono ?_; rintro e w1 ⟨rfl, hb1⟩; have z_w1 := hb1.size; (try simp at z_w1); obtain ⟨y_w1_0_0, c_w1_0_0, f_w1_0_0, r_w1_0_0, t_w1_0_0, p_w1_0_0⟩ := bk hb1 (w.heap.size) (by first | omega | (simp; done) | (simp; omega) | fail); obtain ⟨y_w1_0_1, c_w1_0_1, f_w1_0_1, r_w1_0_1, t_w1_0_1, p_w1_0_1⟩ := bk hb1 (w.heap.size + 1) (by first | omega | (simp; done) | (simp; omega) | fail); obtain ⟨y_w1_0_2, c_w1_0_2, f_w1_0_2, r_w1_0_2, t_w1_0_2, p_w1_0_2⟩ := bk hb1 (w.heap.size + 1 + 1) (by first | omega | (simp; done) | (simp; omega) | fail)
    go_wp2_with fail
    refine (within_v _ _ _ _ (by decide) H2.out _).mono ?_; rintro e w2 ⟨rfl, hb2⟩; have z_w2 := hb2.size; (try simp at z_w2); obtain ⟨y_w2_0_0, c_w2_0_0, f_w2_0_0, r_w2_0_0, t_w2_0_0, p_w2_0_0⟩ := bk hb2 (w.heap.size) (by first | omega | (simp; done) | (simp; omega) | fail); obtain ⟨y_w2_0_1, c_w2_0_1, f_w2_0_1, r_w2_0_1, t_w2_0_1, p_w2_0_1⟩ := bk hb2 (w.heap.size + 1) (by first | omega | (simp; done) | (simp; omega) | fail); obtain ⟨y_w2_0_2, c_w2_0_2, f_w2_0_2, r_w2_0_2, t_w2_0_2, p_w2_0_2⟩ := bk hb2 (w.heap.size + 1 + 1) (by first | omega | (simp; done) | (simp; omega) | fail)
    go_wp2_with fail
    exact bodyPost_row_t 5 #[.int .i64 0, .int .i64 0, .int .i64 0, .int .i64 0, .int .i64 0] (.int .i64 1) rfl rfl rfl rfl Try.underlying27 rfl (by kernel_rfl) (row_of_cells 4 _ rfl (by intro i hi; rcases i with _ | _ | _ | _ | _ | i; (go_simp); (go_simp); (go_simp); (go_simp); (go_simp); exact absurd hi (by omega))) ⟨by rw [EV.out]; rfl, (by repeat (first | with_reducible exact Below.refl _ _ | with_reducible exact Below_of_hid (by assumption) | with_reducible refine Below.drew ?_ | with_reducible refine below_drewN ?_ _ | (with_reducible refine Below_putRow ?_ ?hB _ _; case hB => (first | omega | (simp; done) | (simp; omega))) | (with_reducible refine Below.alloc ?_ ?hB _; case hB => (first | omega | (simp; done) | (simp; omega))) | (with_reducible refine Below.setCell ?_ ?hB _; case hB => (first | omega | (simp; done) | (simp; omega))) | (with_reducible refine Below.trans ?_ (Below.mono (by assumption) ?hB); case hB => (first | omega | (simp; done) | (simp; omega)))))⟩
  · have m := (El.may_iff _).1 h1
    have m2 := (withinB_iff _ _ _).1 h2
    simp only at m h3
    obtain ⟨⟨m3, m4, m5, m6⟩, -⟩ := m
    obtain ⟨m7, m8, m9, m10⟩ := m2
    have H1 := Lib.hid h1
    have H2 := Lib.hid h2
    have H3 := Lib.hid h3
    have EV := Lib.hid h0
    have wu : wrap64 (x + u) = x + u := by unfold wrap64; omega
    have wv : wrap64 (y + v) = y + v := by unfold wrap64; omega
    clear h1 h2 h3 h0 m3 m4 m5 m6 m7 m8 m9 m10
    go_enter Try.func17, Try.ntmps17
    go_wp2_with fail
    refine (ellmay_v _ _ _ _ _ _ H1.out _).mono ?_; rintro e w1 ⟨rfl, hb1⟩; have z_w1 := hb1.size; (try simp at z_w1); obtain ⟨y_w1_0_0, c_w1_0_0, f_w1_0_0, r_w1_0_0, t_w1_0_0, p_w1_0_0⟩ := bk hb1 (w.heap.size) (by first | omega | (simp; done) | (simp; omega) | fail); obtain ⟨y_w1_0_1, c_w1_0_1, f_w1_0_1, r_w1_0_1, t_w1_0_1, p_w1_0_1⟩ := bk hb1 (w.heap.size + 1) (by first | omega | (simp; done) | (simp; omega) | fail); obtain ⟨y_w1_0_2, c_w1_0_2, f_w1_0_2, r_w1_0_2, t_w1_0_2, p_w1_0_2⟩ := bk hb1 (w.heap.size + 1 + 1) (by first | omega | (simp; done) | (simp; omega) | fail)
    go_wp2_with fail
    refine (within_v _ _ _ _ (by decide) H2.out _).mono ?_; rintro e w2 ⟨rfl, hb2⟩; have z_w2 := hb2.size; (try simp at z_w2); obtain ⟨y_w2_0_0, c_w2_0_0, f_w2_0_0, r_w2_0_0, t_w2_0_0, p_w2_0_0⟩ := bk hb2 (w.heap.size) (by first | omega | (simp; done) | (simp; omega) | fail); obtain ⟨y_w2_0_1, c_w2_0_1, f_w2_0_1, r_w2_0_1, t_w2_0_1, p_w2_0_1⟩ := bk hb2 (w.heap.size + 1) (by first | omega | (simp; done) | (simp; omega) | fail); obtain ⟨y_w2_0_2, c_w2_0_2, f_w2_0_2, r_w2_0_2, t_w2_0_2, p_w2_0_2⟩ := bk hb2 (w.heap.size + 1 + 1) (by first | omega | (simp; done) | (simp; omega) | fail)
    go_wp2_with fail
    go_region
    go_wp2_with fail
    refine (maypt_v _ _ _ H3.out _).mono ?_; rintro e w3 ⟨rfl, hb3⟩; have z_w3 := hb3.size; (try simp at z_w3); obtain ⟨y_w3_0_0, c_w3_0_0, f_w3_0_0, r_w3_0_0, t_w3_0_0, p_w3_0_0⟩ := bk hb3 (w.heap.size) (by first | omega | (simp; done) | (simp; omega) | fail); obtain ⟨y_w3_0_1, c_w3_0_1, f_w3_0_1, r_w3_0_1, t_w3_0_1, p_w3_0_1⟩ := bk hb3 (w.heap.size + 1) (by first | omega | (simp; done) | (simp; omega) | fail); obtain ⟨y_w3_0_2, c_w3_0_2, f_w3_0_2, r_w3_0_2, t_w3_0_2, p_w3_0_2⟩ := bk hb3 (w.heap.size + 1 + 1) (by first | omega | (simp; done) | (simp; omega) | fail)
    go_wp2_with fail
    exact bodyPost_row_t 5 #[.int .i64 0, .int .i64 0, .int .i64 0, .int .i64 0, .int .i64 0] (.int .i64 2) rfl rfl rfl rfl Try.underlying27 rfl (by kernel_rfl) (row_of_cells 4 _ rfl (by intro i hi; rcases i with _ | _ | _ | _ | _ | i; (go_simp); (go_simp); (go_simp); (go_simp); (go_simp); exact absurd hi (by omega))) ⟨by rw [EV.out]; rfl, (by repeat (first | with_reducible exact Below.refl _ _ | with_reducible exact Below_of_hid (by assumption) | with_reducible refine Below.drew ?_ | with_reducible refine below_drewN ?_ _ | (with_reducible refine Below_putRow ?_ ?hB _ _; case hB => (first | omega | (simp; done) | (simp; omega))) | (with_reducible refine Below.alloc ?_ ?hB _; case hB => (first | omega | (simp; done) | (simp; omega))) | (with_reducible refine Below.setCell ?_ ?hB _; case hB => (first | omega | (simp; done) | (simp; omega))) | (with_reducible refine Below.trans ?_ (Below.mono (by assumption) ?hB); case hB => (first | omega | (simp; done) | (simp; omega)))))⟩
  · have m := (El.may_iff _).1 h1
    have m2 := (withinB_iff _ _ _).1 h2
    simp only at m h3
    obtain ⟨⟨m3, m4, m5, m6⟩, -⟩ := m
    obtain ⟨m7, m8, m9, m10⟩ := m2
    have H1 := Lib.hid h1
    have H2 := Lib.hid h2
    have H3 := Lib.hid h3
    have EV := Lib.hid h0
    have wu : wrap64 (x + u) = x + u := by unfold wrap64; omega
    have wv : wrap64 (y + v) = y + v := by unfold wrap64; omega
    clear h1 h2 h3 h0 m3 m4 m5 m6 m7 m8 m9 m10
    go_enter Try.func17, Try.ntmps17
    go_wp2_with fail
    refine (ellmay_v _ _ _ _ _ _ H1.out _).mono ?_; rintro e w1 ⟨rfl, hb1⟩; have z_w1 := hb1.size; (try simp at z_w1); obtain ⟨y_w1_0_0, c_w1_0_0, f_w1_0_0, r_w1_0_0, t_w1_0_0, p_w1_0_0⟩ := bk hb1 (w.heap.size) (by first | omega | (simp; done) | (simp; omega) | fail); obtain ⟨y_w1_0_1, c_w1_0_1, f_w1_0_1, r_w1_0_1, t_w1_0_1, p_w1_0_1⟩ := bk hb1 (w.heap.size + 1) (by first | omega | (simp; done) | (simp; omega) | fail); obtain ⟨y_w1_0_2, c_w1_0_2, f_w1_0_2, r_w1_0_2, t_w1_0_2, p_w1_0_2⟩ := bk hb1 (w.heap.size + 1 + 1) (by first | omega | (simp; done) | (simp; omega) | fail)
    go_wp2_with fail
    refine (within_v _ _ _ _ (by decide) H2.out _).mono ?_; rintro e w2 ⟨rfl, hb2⟩; have z_w2 := hb2.size; (try simp at z_w2); obtain ⟨y_w2_0_0, c_w2_0_0, f_w2_0_0, r_w2_0_0, t_w2_0_0, p_w2_0_0⟩ := bk hb2 (w.heap.size) (by first | omega | (simp; done) | (simp; omega) | fail); obtain ⟨y_w2_0_1, c_w2_0_1, f_w2_0_1, r_w2_0_1, t_w2_0_1, p_w2_0_1⟩ := bk hb2 (w.heap.size + 1) (by first | omega | (simp; done) | (simp; omega) | fail); obtain ⟨y_w2_0_2, c_w2_0_2, f_w2_0_2, r_w2_0_2, t_w2_0_2, p_w2_0_2⟩ := bk hb2 (w.heap.size + 1 + 1) (by first | omega | (simp; done) | (simp; omega) | fail)
    go_wp2_with fail
    go_region
    go_wp2_with fail
    refine (maypt_v _ _ _ H3.out _).mono ?_; rintro e w3 ⟨rfl, hb3⟩; have z_w3 := hb3.size; (try simp at z_w3); obtain ⟨y_w3_0_0, c_w3_0_0, f_w3_0_0, r_w3_0_0, t_w3_0_0, p_w3_0_0⟩ := bk hb3 (w.heap.size) (by first | omega | (simp; done) | (simp; omega) | fail); obtain ⟨y_w3_0_1, c_w3_0_1, f_w3_0_1, r_w3_0_1, t_w3_0_1, p_w3_0_1⟩ := bk hb3 (w.heap.size + 1) (by first | omega | (simp; done) | (simp; omega) | fail); obtain ⟨y_w3_0_2, c_w3_0_2, f_w3_0_2, r_w3_0_2, t_w3_0_2, p_w3_0_2⟩ := bk hb3 (w.heap.size + 1 + 1) (by first | omega | (simp; done) | (simp; omega) | fail)
    go_wp2_with fail
    exact bodyPost_row_t 5 #[.int .i64 (x + u), .int .i64 (y + v), .int .i64 a, .int .i64 b, .int .i64 d] (.int .i64 0) rfl rfl rfl rfl Try.underlying27 rfl (by kernel_rfl) (row_of_cells 4 _ rfl (by intro i hi; rcases i with _ | _ | _ | _ | _ | i; (go_simp); (go_simp); (go_simp); (go_simp); (go_simp); exact absurd hi (by omega))) ⟨by rw [EV.out]; rfl, (by repeat (first | with_reducible exact Below.refl _ _ | with_reducible exact Below_of_hid (by assumption) | with_reducible refine Below.drew ?_ | with_reducible refine below_drewN ?_ _ | (with_reducible refine Below_putRow ?_ ?hB _ _; case hB => (first | omega | (simp; done) | (simp; omega))) | (with_reducible refine Below.alloc ?_ ?hB _; case hB => (first | omega | (simp; done) | (simp; omega))) | (with_reducible refine Below.setCell ?_ ?hB _; case hB => (first | omega | (simp; done) | (simp; omega))) | (with_reducible refine Below.trans ?_ (Below.mono (by assumption) ?hB); case hB => (first | omega | (simp; done) | (simp; omega)))))⟩
theorem shift_v (x y a b d u v x' y' a' b' d' k : Int) (h : shiftE ⟨x, y, a, b, d⟩ u v = (⟨x', y', a', b', d'⟩, k)) (w : World) :
    Calls Try.prog 17 #[elC x y a b d, ptV u v] w fun r w' => r = .returned (.tuple #[elC x' y' a' b' d', .int .i64 k]) ∧ Below w.heap.size w w' := by
  have := shift_c x y a b d u v w
  rw [h] at this; exact this
theorem fuse_ok_may {e f o : El} {k : Int} (h : fuseE e f k = (o, 0)) : o.may = true := by
  unfold fuseE mixedV at h
  split at h
  · split at h
    · unfold ellI at h
      split at h
      · injection h with _ h; cases h
      · split at h
        · injection h with _ h; cases h
        · exact (grow_centre (ellEnd_ok h).2).2.2
    · injection h with _ h; cases h
  · injection h with _ h; cases h
theorem shd_cases (u v : Int) (o o' : El) (z z' : Int) (h : Shd u v (o, z) (o', z')) : (z = 0 ∧ z' = 0 ∧ o' = o.sh u v) ∨ (z' = z ∧ (z != 0) = true) ∨ (z = 2 ∧ ((2 : Int) == z') = false) ∨ (z' = 2 ∧ z = 0) ∨ (z' = 2 ∧ (z != 0) = true ∧ (z == 2) = false) := by
  obtain ⟨h1, h2⟩ := h
  simp only at h1 h2
  by_cases a : z = 0
  · by_cases b : z' = 0
    · exact .inl ⟨a, b, h1 a b⟩
    · right; right; right; left; exact ⟨by omega, a⟩
  · by_cases c : z' = z
    · right; left; exact ⟨c, by simp [a]⟩
    · rcases h2 with h2 | h2 | h2
      · exact absurd h2.symm c
      · right; right; left; refine ⟨h2, ?_⟩; simp; omega
      · right; right; right; right; refine ⟨h2, by simp [a], ?_⟩; simp; omega
set_option maxRecDepth 100000 in
set_option maxHeartbeats 8000000 in
theorem infoShifts_c (x y a b d x' y' a' b' d' n u v : Int) (w : World) :
    Calls Try.prog 5 #[elC x y a b d, elC x' y' a' b' d', .int .i64 n, ptV u v] w fun e w' => e = .returned (.bool true) ∧ Below w.heap.size w w' := by
  obtain ⟨K, hK⟩ : ∃ K, wrap64 ((IntKind.u64.wrap n).tmod 35) = K := ⟨_, rfl⟩
  have K0 : 0 ≤ K ∧ K < 35 := by rw [← hK]; exact rem_range n 35 (by decide) (by decide)
  obtain ⟨⟨ex, ey, ea, eb, ed⟩, k, he⟩ : ∃ o k, shiftE ⟨x, y, a, b, d⟩ u v = (o, k) := ⟨_, _, rfl⟩
  obtain ⟨⟨fx, fy, fa, fb, fd⟩, l, hf⟩ : ∃ o k, shiftE ⟨x', y', a', b', d'⟩ u v = (o, k) := ⟨_, _, rfl⟩
  have HE := Lib.hid he
  have HF := Lib.hid hf
  by_cases hk : k = 0
  · subst hk
    by_cases hl : l = 0
    · subst hl
      obtain ⟨me, ee, me', wb⟩ := shift_ok he
      obtain ⟨mf, ef, mf', -⟩ := shift_ok hf
      obtain ⟨⟨ox, oy, oa, ob, od⟩, z, ho⟩ : ∃ o k, fuseE ⟨x, y, a, b, d⟩ ⟨x', y', a', b', d'⟩ K = (o, k) := ⟨_, _, rfl⟩
      obtain ⟨⟨px, py, pa, pb, pd⟩, z', hp⟩ : ∃ o k, fuseE ⟨ex, ey, ea, eb, ed⟩ ⟨fx, fy, fa, fb, fd⟩ K = (o, k) := ⟨_, _, rfl⟩
      have S := fuse_sh _ _ K u v me mf me' mf' K0.1 (by omega)
      rw [← ee, ← ef, ho, hp] at S
      have HO := Lib.hid ho
      have HP := Lib.hid hp
      rcases shd_cases _ _ _ _ _ _ S with ⟨h1, h2, h3⟩ | ⟨h1, h2⟩ | ⟨h1, h2⟩ | ⟨h1, h2⟩ | ⟨h1, h2, h3⟩
      case inl =>
        subst h1; subst h2
        have om := (El.may_iff _).1 (fuse_ok_may ho)
        obtain ⟨q1, q2, q3, q4⟩ := om.1
        obtain ⟨q5, q6, q7, q8⟩ := (withinB_iff _ _ _).1 wb
        simp only at q1 q2 q3 q4
        have i1 : px = ox + u := congrArg El.x h3
        have i2 : py = oy + v := congrArg El.y h3
        have i3 : pa = oa := congrArg El.a h3
        have i4 : pb = ob := congrArg El.b h3
        have i5 : pd = od := congrArg El.d h3
        subst i1; subst i2; subst i3; subst i4; subst i5
        have wu : wrap64 (ox + u) = ox + u := by unfold wrap64; omega
        have wv : wrap64 (oy + v) = oy + v := by unfold wrap64; omega
        clear he hf me ee me' mf ef mf' ho hp S h3 om wb K0 q1 q2 q3 q4 q5 q6 q7 q8
        go_enter Try.func5, Try.ntmps5
        go_wp2_with fail
        refine (shift_v _ _ _ _ _ _ _ _ _ _ _ _ _ HE.out _).mono ?_; rintro e w1 ⟨rfl, hb1⟩; have z_w1 := hb1.size; (try simp at z_w1); obtain ⟨y_w1_0_0, c_w1_0_0, f_w1_0_0, r_w1_0_0, t_w1_0_0, p_w1_0_0⟩ := bk hb1 (w.heap.size) (by first | omega | (simp; done) | (simp; omega) | fail); obtain ⟨y_w1_0_1, c_w1_0_1, f_w1_0_1, r_w1_0_1, t_w1_0_1, p_w1_0_1⟩ := bk hb1 (w.heap.size + 1) (by first | omega | (simp; done) | (simp; omega) | fail); obtain ⟨y_w1_0_2, c_w1_0_2, f_w1_0_2, r_w1_0_2, t_w1_0_2, p_w1_0_2⟩ := bk hb1 (w.heap.size + 1 + 1) (by first | omega | (simp; done) | (simp; omega) | fail)
        go_wp2_with fail
        refine (shift_v _ _ _ _ _ _ _ _ _ _ _ _ _ HF.out _).mono ?_; rintro e w2 ⟨rfl, hb2⟩; have z_w2 := hb2.size; (try simp at z_w2); obtain ⟨y_w2_0_0, c_w2_0_0, f_w2_0_0, r_w2_0_0, t_w2_0_0, p_w2_0_0⟩ := bk hb2 (w.heap.size) (by first | omega | (simp; done) | (simp; omega) | fail); obtain ⟨y_w2_0_1, c_w2_0_1, f_w2_0_1, r_w2_0_1, t_w2_0_1, p_w2_0_1⟩ := bk hb2 (w.heap.size + 1) (by first | omega | (simp; done) | (simp; omega) | fail); obtain ⟨y_w2_0_2, c_w2_0_2, f_w2_0_2, r_w2_0_2, t_w2_0_2, p_w2_0_2⟩ := bk hb2 (w.heap.size + 1 + 1) (by first | omega | (simp; done) | (simp; omega) | fail); obtain ⟨y_w2_1_0, c_w2_1_0, f_w2_1_0, r_w2_1_0, t_w2_1_0, p_w2_1_0⟩ := bk hb2 (w1.heap.size) (by first | omega | (simp; done) | (simp; omega) | fail)
        go_wp2_with fail
        refine (fuse_v _ _ _ _ _ _ _ _ _ _ _ _ _ _ _ _ _ HO.out _).mono ?_; rintro e w3 ⟨rfl, hb3⟩; have z_w3 := hb3.size; (try simp at z_w3); obtain ⟨y_w3_0_0, c_w3_0_0, f_w3_0_0, r_w3_0_0, t_w3_0_0, p_w3_0_0⟩ := bk hb3 (w.heap.size) (by first | omega | (simp; done) | (simp; omega) | fail); obtain ⟨y_w3_0_1, c_w3_0_1, f_w3_0_1, r_w3_0_1, t_w3_0_1, p_w3_0_1⟩ := bk hb3 (w.heap.size + 1) (by first | omega | (simp; done) | (simp; omega) | fail); obtain ⟨y_w3_0_2, c_w3_0_2, f_w3_0_2, r_w3_0_2, t_w3_0_2, p_w3_0_2⟩ := bk hb3 (w.heap.size + 1 + 1) (by first | omega | (simp; done) | (simp; omega) | fail); obtain ⟨y_w3_1_0, c_w3_1_0, f_w3_1_0, r_w3_1_0, t_w3_1_0, p_w3_1_0⟩ := bk hb3 (w1.heap.size) (by first | omega | (simp; done) | (simp; omega) | fail); obtain ⟨y_w3_2_0, c_w3_2_0, f_w3_2_0, r_w3_2_0, t_w3_2_0, p_w3_2_0⟩ := bk hb3 (w2.heap.size) (by first | omega | (simp; done) | (simp; omega) | fail)
        go_wp2_with fail
        refine (fuse_v _ _ _ _ _ _ _ _ _ _ _ _ _ _ _ _ _ HP.out _).mono ?_; rintro e w4 ⟨rfl, hb4⟩; have z_w4 := hb4.size; (try simp at z_w4); obtain ⟨y_w4_0_0, c_w4_0_0, f_w4_0_0, r_w4_0_0, t_w4_0_0, p_w4_0_0⟩ := bk hb4 (w.heap.size) (by first | omega | (simp; done) | (simp; omega) | fail); obtain ⟨y_w4_0_1, c_w4_0_1, f_w4_0_1, r_w4_0_1, t_w4_0_1, p_w4_0_1⟩ := bk hb4 (w.heap.size + 1) (by first | omega | (simp; done) | (simp; omega) | fail); obtain ⟨y_w4_0_2, c_w4_0_2, f_w4_0_2, r_w4_0_2, t_w4_0_2, p_w4_0_2⟩ := bk hb4 (w.heap.size + 1 + 1) (by first | omega | (simp; done) | (simp; omega) | fail); obtain ⟨y_w4_1_0, c_w4_1_0, f_w4_1_0, r_w4_1_0, t_w4_1_0, p_w4_1_0⟩ := bk hb4 (w1.heap.size) (by first | omega | (simp; done) | (simp; omega) | fail); obtain ⟨y_w4_2_0, c_w4_2_0, f_w4_2_0, r_w4_2_0, t_w4_2_0, p_w4_2_0⟩ := bk hb4 (w2.heap.size) (by first | omega | (simp; done) | (simp; omega) | fail); obtain ⟨y_w4_3_0, c_w4_3_0, f_w4_3_0, r_w4_3_0, t_w4_3_0, p_w4_3_0⟩ := bk hb4 (w3.heap.size) (by first | omega | (simp; done) | (simp; omega) | fail)
        go_wp2_with fail
        refine (awake6_c _).mono ?_; rintro e w5 ⟨rfl, hb5⟩
        go_wp2
        go_ret
        exact ⟨rfl, (by repeat (first | with_reducible exact Below.refl _ _ | with_reducible exact Below_of_hid (by assumption) | with_reducible refine Below.drew ?_ | with_reducible refine below_drewN ?_ _ | (with_reducible refine Below_putRow ?_ ?hB _ _; case hB => (first | omega | (simp; done) | (simp; omega))) | (with_reducible refine Below.alloc ?_ ?hB _; case hB => (first | omega | (simp; done) | (simp; omega))) | (with_reducible refine Below.setCell ?_ ?hB _; case hB => (first | omega | (simp; done) | (simp; omega))) | (with_reducible refine Below.trans ?_ (Below.mono (by assumption) ?hB); case hB => (first | omega | (simp; done) | (simp; omega)))))⟩
      all_goals (subst h1; (try subst h2))
      all_goals clear he hf me ee me' mf ef mf' ho hp S wb K0
      all_goals go_enter Try.func5, Try.ntmps5
      all_goals go_wp2_with fail
      all_goals (refine (shift_v _ _ _ _ _ _ _ _ _ _ _ _ _ HE.out _).mono ?_; rintro e w1 ⟨rfl, hb1⟩; have z_w1 := hb1.size; (try simp at z_w1); obtain ⟨y_w1_0_0, c_w1_0_0, f_w1_0_0, r_w1_0_0, t_w1_0_0, p_w1_0_0⟩ := bk hb1 (w.heap.size) (by first | omega | (simp; done) | (simp; omega) | fail); obtain ⟨y_w1_0_1, c_w1_0_1, f_w1_0_1, r_w1_0_1, t_w1_0_1, p_w1_0_1⟩ := bk hb1 (w.heap.size + 1) (by first | omega | (simp; done) | (simp; omega) | fail); obtain ⟨y_w1_0_2, c_w1_0_2, f_w1_0_2, r_w1_0_2, t_w1_0_2, p_w1_0_2⟩ := bk hb1 (w.heap.size + 1 + 1) (by first | omega | (simp; done) | (simp; omega) | fail))
      all_goals go_wp2_with fail
      all_goals (refine (shift_v _ _ _ _ _ _ _ _ _ _ _ _ _ HF.out _).mono ?_; rintro e w2 ⟨rfl, hb2⟩; have z_w2 := hb2.size; (try simp at z_w2); obtain ⟨y_w2_0_0, c_w2_0_0, f_w2_0_0, r_w2_0_0, t_w2_0_0, p_w2_0_0⟩ := bk hb2 (w.heap.size) (by first | omega | (simp; done) | (simp; omega) | fail); obtain ⟨y_w2_0_1, c_w2_0_1, f_w2_0_1, r_w2_0_1, t_w2_0_1, p_w2_0_1⟩ := bk hb2 (w.heap.size + 1) (by first | omega | (simp; done) | (simp; omega) | fail); obtain ⟨y_w2_0_2, c_w2_0_2, f_w2_0_2, r_w2_0_2, t_w2_0_2, p_w2_0_2⟩ := bk hb2 (w.heap.size + 1 + 1) (by first | omega | (simp; done) | (simp; omega) | fail); obtain ⟨y_w2_1_0, c_w2_1_0, f_w2_1_0, r_w2_1_0, t_w2_1_0, p_w2_1_0⟩ := bk hb2 (w1.heap.size) (by first | omega | (simp; done) | (simp; omega) | fail))
      all_goals go_wp2_with fail
      all_goals (refine (fuse_v _ _ _ _ _ _ _ _ _ _ _ _ _ _ _ _ _ HO.out _).mono ?_; rintro e w3 ⟨rfl, hb3⟩; have z_w3 := hb3.size; (try simp at z_w3); obtain ⟨y_w3_0_0, c_w3_0_0, f_w3_0_0, r_w3_0_0, t_w3_0_0, p_w3_0_0⟩ := bk hb3 (w.heap.size) (by first | omega | (simp; done) | (simp; omega) | fail); obtain ⟨y_w3_0_1, c_w3_0_1, f_w3_0_1, r_w3_0_1, t_w3_0_1, p_w3_0_1⟩ := bk hb3 (w.heap.size + 1) (by first | omega | (simp; done) | (simp; omega) | fail); obtain ⟨y_w3_0_2, c_w3_0_2, f_w3_0_2, r_w3_0_2, t_w3_0_2, p_w3_0_2⟩ := bk hb3 (w.heap.size + 1 + 1) (by first | omega | (simp; done) | (simp; omega) | fail); obtain ⟨y_w3_1_0, c_w3_1_0, f_w3_1_0, r_w3_1_0, t_w3_1_0, p_w3_1_0⟩ := bk hb3 (w1.heap.size) (by first | omega | (simp; done) | (simp; omega) | fail); obtain ⟨y_w3_2_0, c_w3_2_0, f_w3_2_0, r_w3_2_0, t_w3_2_0, p_w3_2_0⟩ := bk hb3 (w2.heap.size) (by first | omega | (simp; done) | (simp; omega) | fail))
      all_goals go_wp2_with fail
      all_goals (refine (fuse_v _ _ _ _ _ _ _ _ _ _ _ _ _ _ _ _ _ HP.out _).mono ?_; rintro e w4 ⟨rfl, hb4⟩; have z_w4 := hb4.size; (try simp at z_w4); obtain ⟨y_w4_0_0, c_w4_0_0, f_w4_0_0, r_w4_0_0, t_w4_0_0, p_w4_0_0⟩ := bk hb4 (w.heap.size) (by first | omega | (simp; done) | (simp; omega) | fail); obtain ⟨y_w4_0_1, c_w4_0_1, f_w4_0_1, r_w4_0_1, t_w4_0_1, p_w4_0_1⟩ := bk hb4 (w.heap.size + 1) (by first | omega | (simp; done) | (simp; omega) | fail); obtain ⟨y_w4_0_2, c_w4_0_2, f_w4_0_2, r_w4_0_2, t_w4_0_2, p_w4_0_2⟩ := bk hb4 (w.heap.size + 1 + 1) (by first | omega | (simp; done) | (simp; omega) | fail))
      all_goals go_wp2_with fail
      all_goals (refine (awake6_c _).mono ?_; rintro e w5 ⟨rfl, hb5⟩)
      all_goals go_wp2
      all_goals go_ret
      all_goals exact ⟨rfl, (by repeat (first | with_reducible exact Below.refl _ _ | with_reducible exact Below_of_hid (by assumption) | with_reducible refine Below.drew ?_ | with_reducible refine below_drewN ?_ _ | (with_reducible refine Below_putRow ?_ ?hB _ _; case hB => (first | omega | (simp; done) | (simp; omega))) | (with_reducible refine Below.alloc ?_ ?hB _; case hB => (first | omega | (simp; done) | (simp; omega))) | (with_reducible refine Below.setCell ?_ ?hB _; case hB => (first | omega | (simp; done) | (simp; omega))) | (with_reducible refine Below.trans ?_ (Below.mono (by assumption) ?hB); case hB => (first | omega | (simp; done) | (simp; omega)))))⟩
    · have n2 : (l != 0) = true := by simp [hl]
      clear he hf K0
      go_enter Try.func5, Try.ntmps5
      go_wp2_with fail
      refine (shift_v _ _ _ _ _ _ _ _ _ _ _ _ _ HE.out _).mono ?_; rintro e w1 ⟨rfl, hb1⟩; have z_w1 := hb1.size; (try simp at z_w1); obtain ⟨y_w1_0_0, c_w1_0_0, f_w1_0_0, r_w1_0_0, t_w1_0_0, p_w1_0_0⟩ := bk hb1 (w.heap.size) (by first | omega | (simp; done) | (simp; omega) | fail); obtain ⟨y_w1_0_1, c_w1_0_1, f_w1_0_1, r_w1_0_1, t_w1_0_1, p_w1_0_1⟩ := bk hb1 (w.heap.size + 1) (by first | omega | (simp; done) | (simp; omega) | fail); obtain ⟨y_w1_0_2, c_w1_0_2, f_w1_0_2, r_w1_0_2, t_w1_0_2, p_w1_0_2⟩ := bk hb1 (w.heap.size + 1 + 1) (by first | omega | (simp; done) | (simp; omega) | fail)
      go_wp2_with fail
      refine (shift_v _ _ _ _ _ _ _ _ _ _ _ _ _ HF.out _).mono ?_; rintro e w2 ⟨rfl, hb2⟩; have z_w2 := hb2.size; (try simp at z_w2); obtain ⟨y_w2_0_0, c_w2_0_0, f_w2_0_0, r_w2_0_0, t_w2_0_0, p_w2_0_0⟩ := bk hb2 (w.heap.size) (by first | omega | (simp; done) | (simp; omega) | fail); obtain ⟨y_w2_0_1, c_w2_0_1, f_w2_0_1, r_w2_0_1, t_w2_0_1, p_w2_0_1⟩ := bk hb2 (w.heap.size + 1) (by first | omega | (simp; done) | (simp; omega) | fail); obtain ⟨y_w2_0_2, c_w2_0_2, f_w2_0_2, r_w2_0_2, t_w2_0_2, p_w2_0_2⟩ := bk hb2 (w.heap.size + 1 + 1) (by first | omega | (simp; done) | (simp; omega) | fail)
      go_wp2_with fail
      refine (awake6_c _).mono ?_; rintro e w5 ⟨rfl, hb5⟩
      go_wp2
      go_ret
      exact ⟨rfl, (by repeat (first | with_reducible exact Below.refl _ _ | with_reducible exact Below_of_hid (by assumption) | with_reducible refine Below.drew ?_ | with_reducible refine below_drewN ?_ _ | (with_reducible refine Below_putRow ?_ ?hB _ _; case hB => (first | omega | (simp; done) | (simp; omega))) | (with_reducible refine Below.alloc ?_ ?hB _; case hB => (first | omega | (simp; done) | (simp; omega))) | (with_reducible refine Below.setCell ?_ ?hB _; case hB => (first | omega | (simp; done) | (simp; omega))) | (with_reducible refine Below.trans ?_ (Below.mono (by assumption) ?hB); case hB => (first | omega | (simp; done) | (simp; omega)))))⟩
  · have n2 : (k != 0) = true := by simp [hk]
    clear he hf K0
    go_enter Try.func5, Try.ntmps5
    go_wp2_with fail
    refine (shift_v _ _ _ _ _ _ _ _ _ _ _ _ _ HE.out _).mono ?_; rintro e w1 ⟨rfl, hb1⟩; have z_w1 := hb1.size; (try simp at z_w1); obtain ⟨y_w1_0_0, c_w1_0_0, f_w1_0_0, r_w1_0_0, t_w1_0_0, p_w1_0_0⟩ := bk hb1 (w.heap.size) (by first | omega | (simp; done) | (simp; omega) | fail); obtain ⟨y_w1_0_1, c_w1_0_1, f_w1_0_1, r_w1_0_1, t_w1_0_1, p_w1_0_1⟩ := bk hb1 (w.heap.size + 1) (by first | omega | (simp; done) | (simp; omega) | fail); obtain ⟨y_w1_0_2, c_w1_0_2, f_w1_0_2, r_w1_0_2, t_w1_0_2, p_w1_0_2⟩ := bk hb1 (w.heap.size + 1 + 1) (by first | omega | (simp; done) | (simp; omega) | fail)
    go_wp2_with fail
    refine (shift_v _ _ _ _ _ _ _ _ _ _ _ _ _ HF.out _).mono ?_; rintro e w2 ⟨rfl, hb2⟩; have z_w2 := hb2.size; (try simp at z_w2); obtain ⟨y_w2_0_0, c_w2_0_0, f_w2_0_0, r_w2_0_0, t_w2_0_0, p_w2_0_0⟩ := bk hb2 (w.heap.size) (by first | omega | (simp; done) | (simp; omega) | fail); obtain ⟨y_w2_0_1, c_w2_0_1, f_w2_0_1, r_w2_0_1, t_w2_0_1, p_w2_0_1⟩ := bk hb2 (w.heap.size + 1) (by first | omega | (simp; done) | (simp; omega) | fail); obtain ⟨y_w2_0_2, c_w2_0_2, f_w2_0_2, r_w2_0_2, t_w2_0_2, p_w2_0_2⟩ := bk hb2 (w.heap.size + 1 + 1) (by first | omega | (simp; done) | (simp; omega) | fail)
    go_wp2_with fail
    refine (awake6_c _).mono ?_; rintro e w5 ⟨rfl, hb5⟩
    go_wp2
    go_ret
    exact ⟨rfl, (by repeat (first | with_reducible exact Below.refl _ _ | with_reducible exact Below_of_hid (by assumption) | with_reducible refine Below.drew ?_ | with_reducible refine below_drewN ?_ _ | (with_reducible refine Below_putRow ?_ ?hB _ _; case hB => (first | omega | (simp; done) | (simp; omega))) | (with_reducible refine Below.alloc ?_ ?hB _; case hB => (first | omega | (simp; done) | (simp; omega))) | (with_reducible refine Below.setCell ?_ ?hB _; case hB => (first | omega | (simp; done) | (simp; omega))) | (with_reducible refine Below.trans ?_ (Below.mono (by assumption) ?hB); case hB => (first | omega | (simp; done) | (simp; omega)))))⟩
end Go.Proofs.Ytjfphfnfbgmlfaa
