/- The walks of ellip.Shift, InfoShifts. The plain law of strips about a distance: what is told of one takes nothing away that is. No program in sight. The walks of package strip: may, product, ends; of ellip.Along. The walks of package strip: ends, Ring, Acquire. The walk of package strip's Ring. The walks of package strip: Ring in all, Acquire. -/
import Derived.Test.YtilginoibhfeiaaGreatIC
import Derived.BigRegion
import Derived.Test.YtilginoibhfeiaaGreatIA
import Derived.Test.YtilginoibhfeiaaGreatBE
import Derived.OwnWalk
namespace Go.Proofs.YtilginoibhfeiaaGreat
open Go.RowKit

def shiftE (e : El) (u v : Int) : El × Int := if e.may = true ∧ withinB u v 4194304 = true then (if mayPt (e.x + u) (e.y + v) = true then (e.sh u v, 0) else (El.zero, 2)) else (El.zero, 1)
theorem shift_cases (e : El) (u v : Int) : (e.may = false ∧ shiftE e u v = (El.zero, 1)) ∨ (e.may = true ∧ withinB u v 4194304 = false ∧ shiftE e u v = (El.zero, 1)) ∨
    (e.may = true ∧ withinB u v 4194304 = true ∧ mayPt (e.x + u) (e.y + v) = false ∧ shiftE e u v = (El.zero, 2)) ∨ (e.may = true ∧ withinB u v 4194304 = true ∧ mayPt (e.x + u) (e.y + v) = true ∧ shiftE e u v = (e.sh u v, 0)) := by
  unfold shiftE
  cases h1 : e.may <;> cases h2 : withinB u v 4194304 <;> cases h3 : mayPt (e.x + u) (e.y + v) <;> simp
theorem shift_ok {e o : El} {u v : Int} (h : shiftE e u v = (o, 0)) : e.may = true ∧ o = e.sh u v ∧ (e.sh u v).may = true ∧ withinB u v 4194304 = true := by
  rcases shift_cases e u v with ⟨_, h1⟩ | ⟨_, _, h1⟩ | ⟨_, _, _, h1⟩ | ⟨h2, h3, h4, h1⟩
  · rw [h1] at h; injection h with _ h; cases h
  · rw [h1] at h; injection h with _ h; cases h
  · rw [h1] at h; injection h with _ h; cases h
  · rw [h1] at h; injection h with h _
    refine ⟨h2, h.symm, ?_, h3⟩
    have m := (El.may_iff e).1 h2
    exact (El.may_iff _).2 ⟨(mayPt_iff _ _).1 h4, m.2.1, m.2.2⟩
theorem within_v (x y m : Int) (k : Bool) (hm : 0 ≤ m ∧ m ≤ 9223372036854775807) (h : withinB x y m = k) (w : World) :
    Calls Tryz.prog 68 #[ptV x y, .int .i64 m] w fun e w' => e = .returned (.bool k) ∧ Below w.heap.size w w' := by
  subst h; exact within_c x y m hm w
theorem maypt_v (x y : Int) (k : Bool) (h : mayPt x y = k) (w : World) :
    Calls Tryz.prog 64 #[ptV x y] w fun e w' => e = .returned (.bool k) ∧ Below w.heap.size w w' := by
  subst h; exact maypt_c x y w
set_option maxRecDepth 100000 in
set_option maxHeartbeats 4000000 in
theorem shift_c (x y a b d u v : Int) (w : World) :
    Calls Tryz.prog 79 #[elC x y a b d, ptV u v] w fun r w' => r = .returned (.tuple #[elV (shiftE ⟨x, y, a, b, d⟩ u v).1, .int .i64 (shiftE ⟨x, y, a, b, d⟩ u v).2]) ∧ Below w.heap.size w w' := by
  rcases shift_cases ⟨x, y, a, b, d⟩ u v with ⟨h1, h0⟩ | ⟨h1, h2, h0⟩ | ⟨h1, h2, h3, h0⟩ | ⟨h1, h2, h3, h0⟩
  · have H1 := Lib.hid h1
    have EV := Lib.hid h0
    clear h1 h0
    go_enter Tryz.func79, Tryz.ntmps79
    go_wp2_with fail
    refine (ellmay_v _ _ _ _ _ _ H1.out _).mono ?_; rintro e w1 ⟨rfl, hb1⟩; have z_w1 := hb1.size; (try simp at z_w1); obtain ⟨y_w1_0_0, c_w1_0_0, f_w1_0_0, r_w1_0_0, t_w1_0_0, p_w1_0_0⟩ := bq hb1 (w.heap.size); obtain ⟨y_w1_0_1, c_w1_0_1, f_w1_0_1, r_w1_0_1, t_w1_0_1, p_w1_0_1⟩ := bq hb1 (w.heap.size + 1); obtain ⟨y_w1_0_2, c_w1_0_2, f_w1_0_2, r_w1_0_2, t_w1_0_2, p_w1_0_2⟩ := bq hb1 (w.heap.size + 1 + 1)
    go_wp2_with fail
    exact bodyPost_row_t 5 #[.int .i64 0, .int .i64 0, .int .i64 0, .int .i64 0, .int .i64 0] (.int .i64 1) rfl rfl rfl rfl Tryz.underlying27 rfl (by kernel_rfl) (row_of_cells 4 _ rfl (by intro i hi; rcases i with _ | _ | _ | _ | _ | i; (go_simp); (go_simp); (go_simp); (go_simp); (go_simp); exact absurd hi (by omega))) ⟨by rw [EV.out]; rfl, below_byR⟩
  · have H1 := Lib.hid h1
    have H2 := Lib.hid h2
    have EV := Lib.hid h0
    clear h1 h2 h0
    go_enter Tryz.func79, Tryz.ntmps79
    go_wp2_with fail
    refine (ellmay_v _ _ _ _ _ _ H1.out _).mono ?_; rintro e w1 ⟨rfl, hb1⟩; have z_w1 := hb1.size; (try simp at z_w1); obtain ⟨y_w1_0_0, c_w1_0_0, f_w1_0_0, r_w1_0_0, t_w1_0_0, p_w1_0_0⟩ := bq hb1 (w.heap.size); obtain ⟨y_w1_0_1, c_w1_0_1, f_w1_0_1, r_w1_0_1, t_w1_0_1, p_w1_0_1⟩ := bq hb1 (w.heap.size + 1); obtain ⟨y_w1_0_2, c_w1_0_2, f_w1_0_2, r_w1_0_2, t_w1_0_2, p_w1_0_2⟩ := bq hb1 (w.heap.size + 1 + 1)
    go_wp2_with fail
    refine (within_v _ _ _ _ (by decide) H2.out _).mono ?_; rintro e w2 ⟨rfl, hb2⟩; have z_w2 := hb2.size; (try simp at z_w2); obtain ⟨y_w2_0_0, c_w2_0_0, f_w2_0_0, r_w2_0_0, t_w2_0_0, p_w2_0_0⟩ := bq hb2 (w.heap.size); obtain ⟨y_w2_0_1, c_w2_0_1, f_w2_0_1, r_w2_0_1, t_w2_0_1, p_w2_0_1⟩ := bq hb2 (w.heap.size + 1); obtain ⟨y_w2_0_2, c_w2_0_2, f_w2_0_2, r_w2_0_2, t_w2_0_2, p_w2_0_2⟩ := bq hb2 (w.heap.size + 1 + 1)
    go_wp2_with fail
    exact bodyPost_row_t 5 #[.int .i64 0, .int .i64 0, .int .i64 0, .int .i64 0, .int .i64 0] (.int .i64 1) rfl rfl rfl rfl Tryz.underlying27 rfl (by kernel_rfl) (row_of_cells 4 _ rfl (by intro i hi; rcases i with _ | _ | _ | _ | _ | i; (go_simp); (go_simp); (go_simp); (go_simp); (go_simp); exact absurd hi (by omega))) ⟨by rw [EV.out]; rfl, below_byR⟩
  · have m := (El.may_iff _).1 h1
    have m2 := (withinB_iff _ _ _).1 h2
    simp only at m h3
    obtain ⟨⟨m3, m4, m5, m6⟩, -⟩ := m
    obtain ⟨m7, m8, m9, m10⟩ := m2
    have H1 := Lib.hid h1
    have H2 := Lib.hid h2
    have H3 := Lib.hid h3
    have EV := Lib.hid h0
    have wu : wrap64 (x + u) = x + u := by unfold wrap64; omega
    have wv : wrap64 (y + v) = y + v := by unfold wrap64; omega
    clear h1 h2 h3 h0 m3 m4 m5 m6 m7 m8 m9 m10
    go_enter Tryz.func79, Tryz.ntmps79
    go_wp2_with fail
    refine (ellmay_v _ _ _ _ _ _ H1.out _).mono ?_; rintro e w1 ⟨rfl, hb1⟩; have z_w1 := hb1.size; (try simp at z_w1); obtain ⟨y_w1_0_0, c_w1_0_0, f_w1_0_0, r_w1_0_0, t_w1_0_0, p_w1_0_0⟩ := bq hb1 (w.heap.size); obtain ⟨y_w1_0_1, c_w1_0_1, f_w1_0_1, r_w1_0_1, t_w1_0_1, p_w1_0_1⟩ := bq hb1 (w.heap.size + 1); obtain ⟨y_w1_0_2, c_w1_0_2, f_w1_0_2, r_w1_0_2, t_w1_0_2, p_w1_0_2⟩ := bq hb1 (w.heap.size + 1 + 1)
    go_wp2_with fail
    refine (within_v _ _ _ _ (by decide) H2.out _).mono ?_; rintro e w2 ⟨rfl, hb2⟩; have z_w2 := hb2.size; (try simp at z_w2); obtain ⟨y_w2_0_0, c_w2_0_0, f_w2_0_0, r_w2_0_0, t_w2_0_0, p_w2_0_0⟩ := bq hb2 (w.heap.size); obtain ⟨y_w2_0_1, c_w2_0_1, f_w2_0_1, r_w2_0_1, t_w2_0_1, p_w2_0_1⟩ := bq hb2 (w.heap.size + 1); obtain ⟨y_w2_0_2, c_w2_0_2, f_w2_0_2, r_w2_0_2, t_w2_0_2, p_w2_0_2⟩ := bq hb2 (w.heap.size + 1 + 1)
    go_wp2_with fail
    go_region
    go_wp2_with fail
    refine (maypt_v _ _ _ H3.out _).mono ?_; rintro e w3 ⟨rfl, hb3⟩; have z_w3 := hb3.size; (try simp at z_w3); obtain ⟨y_w3_0_0, c_w3_0_0, f_w3_0_0, r_w3_0_0, t_w3_0_0, p_w3_0_0⟩ := bq hb3 (w.heap.size); obtain ⟨y_w3_0_1, c_w3_0_1, f_w3_0_1, r_w3_0_1, t_w3_0_1, p_w3_0_1⟩ := bq hb3 (w.heap.size + 1); obtain ⟨y_w3_0_2, c_w3_0_2, f_w3_0_2, r_w3_0_2, t_w3_0_2, p_w3_0_2⟩ := bq hb3 (w.heap.size + 1 + 1)
    go_wp2_with fail
    exact bodyPost_row_t 5 #[.int .i64 0, .int .i64 0, .int .i64 0, .int .i64 0, .int .i64 0] (.int .i64 2) rfl rfl rfl rfl Tryz.underlying27 rfl (by kernel_rfl) (row_of_cells 4 _ rfl (by intro i hi; rcases i with _ | _ | _ | _ | _ | i; (go_simp); (go_simp); (go_simp); (go_simp); (go_simp); exact absurd hi (by omega))) ⟨by rw [EV.out]; rfl, below_byR⟩
  · have m := (El.may_iff _).1 h1
    have m2 := (withinB_iff _ _ _).1 h2
    simp only at m h3
    obtain ⟨⟨m3, m4, m5, m6⟩, -⟩ := m
    obtain ⟨m7, m8, m9, m10⟩ := m2
    have H1 := Lib.hid h1
    have H2 := Lib.hid h2
    have H3 := Lib.hid h3
    have EV := Lib.hid h0
    have wu : wrap64 (x + u) = x + u := by unfold wrap64; omega
    have wv : wrap64 (y + v) = y + v := by unfold wrap64; omega
    clear h1 h2 h3 h0 m3 m4 m5 m6 m7 m8 m9 m10
    go_enter Tryz.func79, Tryz.ntmps79
    go_wp2_with fail
    refine (ellmay_v _ _ _ _ _ _ H1.out _).mono ?_; rintro e w1 ⟨rfl, hb1⟩; have z_w1 := hb1.size; (try simp at z_w1); obtain ⟨y_w1_0_0, c_w1_0_0, f_w1_0_0, r_w1_0_0, t_w1_0_0, p_w1_0_0⟩ := bq hb1 (w.heap.size); obtain ⟨y_w1_0_1, c_w1_0_1, f_w1_0_1, r_w1_0_1, t_w1_0_1, p_w1_0_1⟩ := bq hb1 (w.heap.size + 1); obtain ⟨y_w1_0_2, c_w1_0_2, f_w1_0_2, r_w1_0_2, t_w1_0_2, p_w1_0_2⟩ := bq hb1 (w.heap.size + 1 + 1)
    go_wp2_with fail
    refine (within_v _ _ _ _ (by decide) H2.out _).mono ?_; rintro e w2 ⟨rfl, hb2⟩; have z_w2 := hb2.size; (try simp at z_w2); obtain ⟨y_w2_0_0, c_w2_0_0, f_w2_0_0, r_w2_0_0, t_w2_0_0, p_w2_0_0⟩ := bq hb2 (w.heap.size); obtain ⟨y_w2_0_1, c_w2_0_1, f_w2_0_1, r_w2_0_1, t_w2_0_1, p_w2_0_1⟩ := bq hb2 (w.heap.size + 1); obtain ⟨y_w2_0_2, c_w2_0_2, f_w2_0_2, r_w2_0_2, t_w2_0_2, p_w2_0_2⟩ := bq hb2 (w.heap.size + 1 + 1)
    go_wp2_with fail
    go_region
    go_wp2_with fail
    refine (maypt_v _ _ _ H3.out _).mono ?_; rintro e w3 ⟨rfl, hb3⟩; have z_w3 := hb3.size; (try simp at z_w3); obtain ⟨y_w3_0_0, c_w3_0_0, f_w3_0_0, r_w3_0_0, t_w3_0_0, p_w3_0_0⟩ := bq hb3 (w.heap.size); obtain ⟨y_w3_0_1, c_w3_0_1, f_w3_0_1, r_w3_0_1, t_w3_0_1, p_w3_0_1⟩ := bq hb3 (w.heap.size + 1); obtain ⟨y_w3_0_2, c_w3_0_2, f_w3_0_2, r_w3_0_2, t_w3_0_2, p_w3_0_2⟩ := bq hb3 (w.heap.size + 1 + 1)
    go_wp2_with fail
    exact bodyPost_row_t 5 #[.int .i64 (x + u), .int .i64 (y + v), .int .i64 a, .int .i64 b, .int .i64 d] (.int .i64 0) rfl rfl rfl rfl Tryz.underlying27 rfl (by kernel_rfl) (row_of_cells 4 _ rfl (by intro i hi; rcases i with _ | _ | _ | _ | _ | i; (go_simp); (go_simp); (go_simp); (go_simp); (go_simp); exact absurd hi (by omega))) ⟨by rw [EV.out]; rfl, below_byR⟩
theorem shift_v (x y a b d u v x' y' a' b' d' k : Int) (h : shiftE ⟨x, y, a, b, d⟩ u v = (⟨x', y', a', b', d'⟩, k)) (w : World) :
    Calls Tryz.prog 79 #[elC x y a b d, ptV u v] w fun r w' => r = .returned (.tuple #[elC x' y' a' b' d', .int .i64 k]) ∧ Below w.heap.size w w' := by
  have := shift_c x y a b d u v w
  rw [h] at this; exact this
end Go.Proofs.YtilginoibhfeiaaGreat
namespace Go.Proofs.YtilginoibhfeiaaGreat

def mayRange (lo hi : Int) : Bool := decide (0 ≤ lo ∧ lo ≤ hi ∧ hi ≤ 4194304)
def upI (z : Int) : Int := (up z.toNat : Nat)
def rtI (z : Int) : Int := (rt z.toNat : Nat)
theorem upI_spec (z : Int) (h : 0 ≤ z) : 0 ≤ upI z ∧ z ≤ upI z * upI z := by
  have ⟨a, _⟩ := up_spec z.toNat
  unfold upI
  refine ⟨by omega, ?_⟩
  rw [← Int.natCast_mul]; omega
theorem upI_le (z k : Int) (hk : 0 ≤ k) (h : z ≤ k * k) : upI z ≤ k := by
  obtain ⟨n, rfl⟩ : ∃ n : Nat, k = n := ⟨k.toNat, by omega⟩
  have := up_le z.toNat n (by rw [← Int.natCast_mul] at h; omega)
  unfold upI; omega
theorem rtI_spec (z : Int) (h : 0 ≤ z) : 0 ≤ rtI z ∧ rtI z * rtI z ≤ z ∧ z < (rtI z + 1) * (rtI z + 1) := by
  have ⟨a, b⟩ := rt_spec z.toNat
  unfold rtI
  refine ⟨by omega, ?_, ?_⟩
  · rw [← Int.natCast_mul]; omega
  · have e : ((rt z.toNat : Nat) : Int) + 1 = ((rt z.toNat + 1 : Nat) : Int) := by omega
    rw [e, ← Int.natCast_mul]; omega
theorem rtI_lt (z k : Int) (hk : 0 ≤ k) (h : z < k * k) : rtI z < k ∨ k = 0 := by
  obtain ⟨n, rfl⟩ : ∃ n : Nat, k = n := ⟨k.toNat, by omega⟩
  rcases Nat.eq_zero_or_pos n with h0 | h0
  · right; omega
  · left
    have := rt_lt z.toNat n (by
      have : 0 < n * n := Nat.mul_pos h0 h0
      rw [← Int.natCast_mul] at h; omega)
    unfold rtI; omega
/-- From a square: the root. -/
theorem le_of_sq {a b : Int} (hb : 0 ≤ b) (h : a * a ≤ b * b) : a ≤ b := (sq_bound hb h).2
theorem sq_le_sq' {a b : Int} (h0 : 0 ≤ a) (h : a ≤ b) : a * a ≤ b * b := Int.mul_le_mul h h h0 (by omega)
theorem cs_dot (u v x y : Int) : (u * x + v * y) * (u * x + v * y) ≤ (u * u + v * v) * (x * x + y * y) := by
  have e1 : (u * x + v * y) * (u * x + v * y) = (u * u + v * v) * (x * x + y * y) - (u * y - v * x) * (u * y - v * x) := by grind
  have e2 := int_sq_nonneg (u * y - v * x)
  omega
theorem dot_le {u v x y R r : Int} (hR : 0 ≤ R) (hr : 0 ≤ r) (h1 : u * u + v * v ≤ R * R) (h2 : x * x + y * y ≤ r * r) : -(R * r) ≤ u * x + v * y ∧ u * x + v * y ≤ R * r := by
  have q2 : 0 ≤ x * x + y * y := by have := int_sq_nonneg x; have := int_sq_nonneg y; omega
  have e3 : (u * u + v * v) * (x * x + y * y) ≤ (R * R) * (r * r) := Int.mul_le_mul h1 h2 q2 (int_sq_nonneg R)
  have e4 : (R * r) * (R * r) = (R * R) * (r * r) := by grind
  have := cs_dot u v x y
  exact sq_bound (Int.mul_nonneg hR hr) (by omega)
theorem two_le {u v x y R r : Int} (hR : 0 ≤ R) (hr : 0 ≤ r) (h1 : u * u + v * v ≤ R * R) (h2 : x * x + y * y ≤ r * r) : (u + x) * (u + x) + (v + y) * (v + y) ≤ (R + r) * (R + r) := by
  have := (dot_le hR hr h1 h2).2
  have e5 : (u + x) * (u + x) + (v + y) * (v + y) = (u * u + v * v) + (x * x + y * y) + 2 * (u * x + v * y) := by grind
  have e6 : (R + r) * (R + r) = R * R + r * r + 2 * (R * r) := by grind
  omega
theorem two_lt {u v x y R r : Int} (hR : 0 ≤ R) (hr : 0 ≤ r) (h1 : u * u + v * v < R * R) (h2 : x * x + y * y ≤ r * r) : (u + x) * (u + x) + (v + y) * (v + y) < (R + r) * (R + r) := by
  have := (dot_le hR hr (Int.le_of_lt h1) h2).2
  have e5 : (u + x) * (u + x) + (v + y) * (v + y) = (u * u + v * v) + (x * x + y * y) + 2 * (u * x + v * y) := by grind
  have e6 : (R + r) * (R + r) = R * R + r * r + 2 * (R * r) := by grind
  omega
/-- Within its radius of the centre. -/
theorem has_rad (e : El) (p q : Int) (h : e.has p q = true) : (p - e.x) * (p - e.x) + (q - e.y) * (q - e.y) ≤ e.rad * e.rad := by
  have h1 := El.has_dir e p q h 1 0
  have h2 := El.has_dir e p q h 0 1
  have h3 := e.rad_sq ((El.has_iff _ _ _).1 h).1
  have e1 : form e.a e.b e.d 1 0 = e.a := by unfold form; grind
  have e2 : form e.a e.b e.d 0 1 = e.d := by unfold form; grind
  rw [e1] at h1; rw [e2] at h2
  have e3 : ((p - e.x) * 1 + (q - e.y) * 0) * ((p - e.x) * 1 + (q - e.y) * 0) = (p - e.x) * (p - e.x) := by grind
  have e4 : ((p - e.x) * 0 + (q - e.y) * 1) * ((p - e.x) * 0 + (q - e.y) * 1) = (q - e.y) * (q - e.y) := by grind
  omega
/-! ### The ring -/
def ringLo (h w k m : Int) : Int := if 0 < h - w ∧ 0 < h * (m * m) - k * k then max (h - w) (rtI (h * (m * m) - k * k)) else h - w
def ringHi (h w far : Int) : Int := min (h + w) (upI (h * (far * far)))
def ringEnd (ox oy X Y lo hi : Int) : St × Int := if hi < lo then (⟨0, 0, 0, 0, 0, 0⟩, 3) else if hi = lo then (⟨ox, oy, X, Y, lo, hi + 1⟩, 0) else (⟨ox, oy, X, Y, lo, hi⟩, 0)
def ringE (e n : El) (lo hi : Int) : St × Int :=
  if e.may = true ∧ n.may = true ∧ mayRange lo hi = true then
    if e.x - n.x = 0 ∧ e.y - n.y = 0 then (⟨0, 0, 0, 0, 0, 0⟩, 7)
    else ringEnd n.x n.y (e.x - n.x) (e.y - n.y)
      (ringLo ((e.x - n.x) * (e.x - n.x) + (e.y - n.y) * (e.y - n.y)) (upI (form e.a e.b e.d (e.x - n.x) (e.y - n.y))) (upI (form e.a e.b e.d (-(e.y - n.y)) (e.x - n.x))) (max 0 (lo - n.rad)))
      (ringHi ((e.x - n.x) * (e.x - n.x) + (e.y - n.y) * (e.y - n.y)) (upI (form e.a e.b e.d (e.x - n.x) (e.y - n.y))) (hi + n.rad))
  else (⟨0, 0, 0, 0, 0, 0⟩, 1)
/-- Sizes. -/
theorem sqb (u m : Int) (h1 : -m ≤ u) (h2 : u ≤ m) : 0 ≤ u * u ∧ u * u ≤ m * m := by
  refine ⟨int_sq_nonneg u, ?_⟩
  have h3 := Int.mul_nonneg (show 0 ≤ m - u by omega) (show 0 ≤ m + u by omega)
  have e : (m - u) * (m + u) = m * m - u * u := by grind
  omega
theorem form_small (a b d x y : Int) (ha : -70368744177664 ≤ a ∧ a ≤ 70368744177664) (hb : -70368744177664 ≤ b ∧ b ≤ 70368744177664) (hd : -70368744177664 ≤ d ∧ d ≤ 70368744177664) (hx : -8388608 ≤ x ∧ x ≤ 8388608) (hy : -8388608 ≤ y ∧ y ≤ 8388608) :
    form a b d x y ≤ 140737488355328 * 140737488355328 := by
  have x2 : 0 ≤ x * x ∧ x * x ≤ 70368744177664 := by have := sqb x 8388608 hx.1 hx.2; omega
  have y2 : 0 ≤ y * y ∧ y * y ≤ 70368744177664 := by have := sqb y 8388608 hy.1 hy.2; omega
  have z2 := mul_rng x y 8388608 8388608 hx.1 hx.2 hy.1 hy.2
  have p1 := mul_rng a (x * x) 70368744177664 70368744177664 ha.1 ha.2 (by omega) x2.2
  have p2 := mul_rng d (y * y) 70368744177664 70368744177664 hd.1 hd.2 (by omega) y2.2
  have p3 := mul_rng b (x * y) 70368744177664 70368744177664 hb.1 hb.2 (by omega) (by omega)
  unfold form
  omega
theorem form_nonneg (e : El) (h : e.may = true) (x y : Int) : 0 ≤ form e.a e.b e.d x y := may_form e h x y
theorem centres (e n : El) (he : e.may = true) (hn : n.may = true) : (-8388608 ≤ e.x - n.x ∧ e.x - n.x ≤ 8388608) ∧ (-8388608 ≤ e.y - n.y ∧ e.y - n.y ≤ 8388608) := by
  have m := ((El.may_iff e).1 he).1
  have m' := ((El.may_iff n).1 hn).1
  omega
/-- What stands in the ring's middle, along the line of both centres: at most so far. -/
theorem along_small (e n : El) (he : e.may = true) (hn : n.may = true) :
    (0 ≤ upI (form e.a e.b e.d (e.x - n.x) (e.y - n.y)) ∧ upI (form e.a e.b e.d (e.x - n.x) (e.y - n.y)) ≤ 140737488355328) ∧ (0 ≤ upI (form e.a e.b e.d (-(e.y - n.y)) (e.x - n.x)) ∧ upI (form e.a e.b e.d (-(e.y - n.y)) (e.x - n.x)) ≤ 140737488355328) := by
  have m := ((El.may_iff e).1 he).2.1
  have c := centres e n he hn
  refine ⟨⟨(upI_spec _ (form_nonneg e he _ _)).1, upI_le _ _ (by decide) ?_⟩, (upI_spec _ (form_nonneg e he _ _)).1, upI_le _ _ (by decide) ?_⟩
  · exact form_small _ _ _ _ _ (by omega) (by omega) (by omega) (by omega) (by omega)
  · exact form_small _ _ _ _ _ (by omega) (by omega) (by omega) (by omega) (by omega)
theorem rad_nat (e : El) : 0 ≤ e.rad := by unfold El.rad; omega
/-- The place of one along the ring's direction. -/
structure Ring (h w k m far l : Int) : Prop where
  h0 : 0 < h
  lw : h - w ≤ l
  uw : l ≤ h + w
  lk : h * (m * m) ≤ l * l + k * k
  uf : l * l ≤ h * (far * far)
theorem ring_in {h w k m far l : Int} (r : Ring h w k m far l) : ringLo h w k m ≤ l ∧ l ≤ ringHi h w far := by
  refine ⟨?_, ?_⟩
  · unfold ringLo
    split
    · rename_i hc
      have a := rtI_spec (h * (m * m) - k * k) (by omega)
      have h1 := r.lk
      have h2 : rtI (h * (m * m) - k * k) * rtI (h * (m * m) - k * k) ≤ l * l := by omega
      have h3 := r.lw
      have := le_of_sq (a := rtI (h * (m * m) - k * k)) (b := l) (by omega) h2
      omega
    · exact r.lw
  · unfold ringHi
    have h1 : 0 ≤ h * (far * far) := by have := r.uf; have := int_sq_nonneg l; omega
    have a := upI_spec _ h1
    have := le_of_sq (a := l) a.1 (Int.le_trans r.uf a.2)
    have := r.uw
    omega
theorem ringEnd_ok {ox oy X Y lo hi l : Int} (h1 : lo ≤ l) (h2 : l ≤ hi) : ∃ hi', ringEnd ox oy X Y lo hi = (⟨ox, oy, X, Y, lo, hi'⟩, 0) ∧ lo < hi' ∧ hi ≤ hi' ∧ hi' ≤ hi + 1 := by
  unfold ringEnd
  rw [if_neg (by omega)]
  split
  · exact ⟨_, rfl, by omega, by omega, by omega⟩
  · exact ⟨_, rfl, by omega, by omega, by omega⟩
/-- A point of the one, as far from a point of the other as is told. -/
structure Told (e n : El) (p q p' q' lo hi : Int) : Prop where
  he : e.has p q = true
  hn : n.has p' q' = true
  hlo : lo * lo ≤ (p - p') * (p - p') + (q - q') * (q - q')
  hhi : (p - p') * (p - p') + (q - q') * (q - q') ≤ hi * hi
  hr : mayRange lo hi = true
theorem mayRange_iff (lo hi : Int) : mayRange lo hi = true ↔ 0 ≤ lo ∧ lo ≤ hi ∧ hi ≤ 4194304 := by unfold mayRange; simp
section
variable {e n : El} {p q p' q' lo hi : Int} (t : Told e n p q p' q' lo hi)
include t
/-- At most so far from the centre. -/
theorem told_far : (p - n.x) * (p - n.x) + (q - n.y) * (q - n.y) ≤ (hi + n.rad) * (hi + n.rad) := by
  have r := (mayRange_iff _ _).1 t.hr
  have := two_le (u := p - p') (v := q - q') (x := p' - n.x) (y := q' - n.y) (R := hi) (r := n.rad) (by omega) (rad_nat n) t.hhi (has_rad n p' q' t.hn)
  rw [show p - p' + (p' - n.x) = p - n.x by omega, show q - q' + (q' - n.y) = q - n.y by omega] at this
  exact this
/-- At least so far from it. -/
theorem told_near : max 0 (lo - n.rad) * max 0 (lo - n.rad) ≤ (p - n.x) * (p - n.x) + (q - n.y) * (q - n.y) := by
  have hr := rad_nat n
  rcases Int.lt_or_le 0 (lo - n.rad) with h | h
  · obtain ⟨m, hm⟩ : ∃ m, lo - n.rad = m := ⟨_, rfl⟩
    rw [hm] at h ⊢
    rw [show max 0 m = m by omega]
    rcases Int.lt_or_le ((p - n.x) * (p - n.x) + (q - n.y) * (q - n.y)) (m * m) with hc | hc
    · exfalso
      have hz := has_rad n p' q' t.hn
      have hz' : (n.x - p') * (n.x - p') + (n.y - q') * (n.y - q') ≤ n.rad * n.rad := by
        have e1 : (n.x - p') * (n.x - p') + (n.y - q') * (n.y - q') = (p' - n.x) * (p' - n.x) + (q' - n.y) * (q' - n.y) := by grind
        omega
      have := two_lt (u := p - n.x) (v := q - n.y) (x := n.x - p') (y := n.y - q') (R := m) (r := n.rad) (by omega) hr hc hz'
      rw [show p - n.x + (n.x - p') = p - p' by omega, show q - n.y + (n.y - q') = q - q' by omega, show m + n.rad = lo by omega] at this
      have := t.hlo
      omega
    · exact hc
  · rw [show max 0 (lo - n.rad) = 0 by omega]
    have := int_sq_nonneg (p - n.x)
    have := int_sq_nonneg (q - n.y)
    omega
theorem told_ring (hne : ¬ (e.x - n.x = 0 ∧ e.y - n.y = 0)) :
    Ring ((e.x - n.x) * (e.x - n.x) + (e.y - n.y) * (e.y - n.y)) (upI (form e.a e.b e.d (e.x - n.x) (e.y - n.y))) (upI (form e.a e.b e.d (-(e.y - n.y)) (e.x - n.x))) (max 0 (lo - n.rad)) (hi + n.rad)
      ((e.x - n.x) * (p - n.x) + (e.y - n.y) * (q - n.y)) := by
  have hem := ((El.has_iff _ _ _).1 t.he).1
  obtain ⟨X, hX⟩ : ∃ X, e.x - n.x = X := ⟨_, rfl⟩
  obtain ⟨Y, hY⟩ : ∃ Y, e.y - n.y = Y := ⟨_, rfl⟩
  have far := told_far t
  have near := told_near t
  obtain ⟨u, hu⟩ : ∃ u, p - n.x = u := ⟨_, rfl⟩
  obtain ⟨v, hv⟩ : ∃ v, q - n.y = v := ⟨_, rfl⟩
  rw [hX, hY] at hne ⊢
  rw [hu, hv] at far near ⊢
  have d1 := El.has_dir e p q t.he X Y
  have d2 := El.has_dir e p q t.he (-Y) X
  have w1 := upI_spec _ (form_nonneg e hem X Y)
  have w2 := upI_spec _ (form_nonneg e hem (-Y) X)
  obtain ⟨w, hw⟩ : ∃ w, upI (form e.a e.b e.d X Y) = w := ⟨_, rfl⟩
  obtain ⟨k, hk⟩ : ∃ k, upI (form e.a e.b e.d (-Y) X) = k := ⟨_, rfl⟩
  rw [hw] at w1 ⊢
  rw [hk] at w2 ⊢
  have ex : p - e.x = u - X := by omega
  have ey : q - e.y = v - Y := by omega
  rw [ex, ey] at d1 d2
  have b1 := sq_bound (z := (u - X) * X + (v - Y) * Y) w1.1 (Int.le_trans d1 w1.2)
  have e1 : (u - X) * X + (v - Y) * Y = (X * u + Y * v) - (X * X + Y * Y) := by grind
  have e2 : (u - X) * -Y + (v - Y) * X = X * v - Y * u := by grind
  rw [e1] at b1
  rw [e2] at d2
  have e3 : (X * u + Y * v) * (X * u + Y * v) + (X * v - Y * u) * (X * v - Y * u) = (X * X + Y * Y) * (u * u + v * v) := by grind
  have hpos : 0 < X * X + Y * Y := by
    have a1 := int_sq_nonneg X
    have a2 := int_sq_nonneg Y
    rcases Int.lt_or_le 0 (X * X + Y * Y) with h | h
    · exact h
    · exfalso
      have z1 : X * X = 0 := by omega
      have z2 : Y * Y = 0 := by omega
      exact hne ⟨by rcases Int.mul_eq_zero.1 z1 with h | h <;> exact h, by rcases Int.mul_eq_zero.1 z2 with h | h <;> exact h⟩
  have n1 := Int.mul_le_mul_of_nonneg_left near (Int.le_of_lt hpos)
  have n2 := Int.mul_le_mul_of_nonneg_left far (Int.le_of_lt hpos)
  have n3 := int_sq_nonneg (X * v - Y * u)
  exact ⟨hpos, by omega, by omega, by omega, by omega⟩
/-- The ring holds it. -/
theorem ring_holds (hne : ¬ (e.x - n.x = 0 ∧ e.y - n.y = 0)) : ∃ s, ringE e n lo hi = (s, 0) ∧ s.may = true ∧ s.lo ≤ s.hx * (p - s.ox) + s.hy * (q - s.oy) ∧ s.hx * (p - s.ox) + s.hy * (q - s.oy) ≤ s.hi := by
  have hem := ((El.has_iff _ _ _).1 t.he).1
  have hnm := ((El.has_iff _ _ _).1 t.hn).1
  have R := told_ring t hne
  have I := ring_in R
  have c := centres e n hem hnm
  have al := along_small e n hem hnm
  have mn := ((El.may_iff n).1 hnm).1
  obtain ⟨w, hw⟩ : ∃ w, upI (form e.a e.b e.d (e.x - n.x) (e.y - n.y)) = w := ⟨_, rfl⟩
  obtain ⟨k, hk⟩ : ∃ k, upI (form e.a e.b e.d (-(e.y - n.y)) (e.x - n.x)) = k := ⟨_, rfl⟩
  obtain ⟨hi', h1, h2, h3, h4⟩ := ringEnd_ok (ox := n.x) (oy := n.y) (X := e.x - n.x) (Y := e.y - n.y) I.1 I.2
  rw [hw] at al
  rw [hw] at h1 h2 h3 h4 R I
  rw [hk] at h1 h2 R I
  rw [hk] at al
  refine ⟨(⟨n.x, n.y, e.x - n.x, e.y - n.y, ringLo ((e.x - n.x) * (e.x - n.x) + (e.y - n.y) * (e.y - n.y)) w k (max 0 (lo - n.rad)), hi'⟩ : St), ?_, ?_, ?_, ?_⟩
  · unfold ringE; rw [if_pos ⟨hem, hnm, t.hr⟩, if_neg hne, hw, hk]; exact h1
  · have q1 := sqb (e.x - n.x) 8388608 (by omega) (by omega)
    have q2 := sqb (e.y - n.y) 8388608 (by omega) (by omega)
    have hlo : -1125899906842624 ≤ ringLo ((e.x - n.x) * (e.x - n.x) + (e.y - n.y) * (e.y - n.y)) w k (max 0 (lo - n.rad)) := by
      unfold ringLo; split <;> omega
    have hhi : ringHi ((e.x - n.x) * (e.x - n.x) + (e.y - n.y) * (e.y - n.y)) w (hi + n.rad) ≤ 1000000000000000 := by
      unfold ringHi; omega
    refine (St.may_iff _).2 ⟨?_, ?_, ?_, ?_, ?_, ?_⟩ <;> simp only <;> omega
  · exact I.1
  · exact Int.le_trans I.2 h3
end
end Go.Proofs.YtilginoibhfeiaaGreat
namespace Go.Proofs.YtilginoibhfeiaaGreat
open Go.RowKit

theorem smay_c (lo hi : Int) (w : World) : Calls Tryz.prog 75 #[.int .i64 lo, .int .i64 hi] w fun e w' => e = .returned (.bool (mayRange lo hi)) ∧ Below w.heap.size w w' := by
  by_cases h1 : 0 ≤ lo
  · by_cases h2 : lo ≤ hi
    · have E : Hid (mayRange lo hi = decide (hi ≤ 4194304)) := by show mayRange lo hi = _; unfold mayRange; simp [h1, h2]
      go_enter Tryz.func75, Tryz.ntmps75
      go_wp2_with fail
      go_ret
      exact ⟨by rw [E.out]; rfl, below_byR⟩
    · have E : Hid (mayRange lo hi = false) := by show mayRange lo hi = _; unfold mayRange; simp [h2]
      go_enter Tryz.func75, Tryz.ntmps75
      go_wp2_with fail
      go_ret
      exact ⟨by rw [E.out]; rfl, below_byR⟩
  · have E : Hid (mayRange lo hi = false) := by show mayRange lo hi = _; unfold mayRange; simp [h1]
    go_enter Tryz.func75, Tryz.ntmps75
    go_wp2_with fail
    go_ret
    exact ⟨by rw [E.out]; rfl, below_byR⟩
theorem smay_v (lo hi : Int) (k : Bool) (h : mayRange lo hi = k) (w : World) : Calls Tryz.prog 75 #[.int .i64 lo, .int .i64 hi] w fun e w' => e = .returned (.bool k) ∧ Below w.heap.size w w' := by
  subst h; exact smay_c lo hi w
/-- A product, from 1 on. -/
def prodW (l : List Int) : WI := l.foldl (fun p n => p.mul (WI.of n)) (WI.of 1)
def ints (l : List Int) : Array Value := (l.map (fun n => Value.int .i64 n)).toArray
theorem ints_at (l : List Int) (k : Nat) : (ints l)[k]? = (l[k]?).map (fun n => Value.int .i64 n) := by unfold ints; simp
theorem prodW_succ (l : List Int) (k : Nat) (n : Int) (h : l[k]? = some n) : prodW (l.take (k + 1)) = (prodW (l.take k)).mul (WI.of n) := by
  unfold prodW
  rw [List.take_add_one, h]
  simp
set_option maxRecDepth 100000 in
set_option maxHeartbeats 4000000 in
theorem product_c (l : List Int) (g : Nat) (w : World) (hl : l.length ≤ 1000) (hall : ∀ n ∈ l, -9223372036854775808 ≤ n ∧ n ≤ 9223372036854775807) (hg : Blk w g (ints l) 2) :
    Calls Tryz.prog 149 #[.slice (some ⟨g, 0, none⟩) l.length l.length] w fun e w' => e = .returned (.agg (prodW l).cells) ∧ Below w.heap.size w w' := by
  have HG := Lib.hid hg
  have HA := Lib.hid hall
  have lg := HG.out.lt
  clear hg hall
  go_enter Tryz.func149, Tryz.ntmps149
  go_wp2_with fail
  refine (of_c 1 (by decide) (by decide) _).mono ?_; rintro e w1 ⟨rfl, hb1⟩
  have B0 := Lib.hid (((Blk.new w (WI.of 0).cells 58)).keep (by rw [cellsI_0eq] at *; exact hb1))
  have s1 := hb1.size; (try simp at s1)
  have HB1 : Hid (Below w.heap.size w w1) := (show Below _ _ _ from below_byR)
  clear hb1
  go_wp2_with fail
  go_loopw [5, 9] (fun _ i wr => ∃ k : Nat, k ≤ l.length ∧ i = .int .i64 k ∧ Hid (Below w.heap.size w wr) ∧ Hid (Blk wr w1.heap.size (prodW (l.take k)).cells 58) ∧ Hid (Blk wr w.heap.size (WI.of 0).cells 58)) (fun _ i _ => l.length - (intOf i).toNat)
  case atStart =>
    refine ⟨0, by omega, rfl, (show Below _ _ _ from below_byR), ?_, ?_⟩
    · exact Blk.new _ _ _
    · exact B0.out.alloc _
  case round =>
    obtain ⟨k, hk, rfl, HB, H1, H0⟩ := hrel
    by_cases hlt : k < l.length
    · obtain ⟨x, hx⟩ : ∃ x, l[k]? = some x := ⟨_, List.getElem?_eq_getElem hlt⟩
      have hx0 : Hid (-9223372036854775808 ≤ x ∧ x ≤ 9223372036854775807) := HA.out x (List.mem_of_getElem? hx)
      have g2 : wr.cell? ⟨g, k, none⟩ = some (.int .i64 x) := by rw [(HG.out.keep HB.out).at, ints_at, hx]; rfl
      have g1 : wr.row? w1.heap.size 0 18 = some (prodW (l.take k)).cells := H1.out.row?_all 18 (by simp)
      have EP := Lib.hid (prodW_succ l k x hx)
      have hk1 : (k : Int) < (l.length : Int) := by omega
      have hk0 : (0 : Int) ≤ k := by omega
      have f1 := @inw_row _ _ _ _ _ g1
      go_wp2_with fail
      refine wp_region_fresh' 4 (fun _ => none) (fun _ => []) (by kernel_rfl) (by kernel_rfl) ?_; refine ex_list ?_; apply Exists.intro; refine ex_list ?_; apply Exists.intro; refine ex_list ?_; apply Exists.intro; refine ex_list ?_; apply Exists.intro; refine ⟨[], fun gg NN hN => ?_⟩; simp only [List.take_succ_cons, List.take_zero, List.drop_succ_cons, List.drop_zero]; (repeat (refine lexF_quiet rfl ?_; go_big_quiet_step (first | exact rfl | (first | (go_at_call 84; exact calls_in (of_c _ hx0.out.1 hx0.out.2 _)) | (go_at_call 91; exact calls_in (mul_I _ _ _)))); refine wpQuiet_nil ⟨rfl, ?_⟩))
      refine lexF_nil ?_
      intro w' hb _ _
      have hb' : Below wr.heap.size wr w' := hb
      have B1 := Lib.hid (H1.out.keep hb')
      have B0' := Lib.hid (H0.out.keep hb')
      have hp : w'.put? w1.heap.size 0 ((prodW (l.take k)).mul (WI.of x)).cells = some (w'.putRow w1.heap.size 0 ((prodW (l.take k)).mul (WI.of x)).cells) := B1.out.put? 0 _ (by simp) (by simp)
      go_wp2
      refine ⟨⟨k + 1, by omega, by go_num, ?_, ?_, ?_⟩, by simp [intOf]; omega⟩
      · exact Below_putRow (Below.trans HB.out (hb'.mono HB.out.size)) (by omega) _ _
      · rw [EP.out]; exact (B1.out.putRow_same 0 _).of_eq (by rw [splice_all _ _ (by simp)])
      · exact B0'.out.putRow_other (by omega) 0 _
    · have hk2 : ¬ (k : Int) < (l.length : Int) := by omega
      obtain rfl : k = l.length := by omega
      rw [List.take_length] at H1
      have g1 : wr.row? w1.heap.size 0 18 = some (prodW l).cells := H1.out.row?_all 18 (by simp)
      have hp : wr.put? w.heap.size 0 (prodW l).cells = some (wr.putRow w.heap.size 0 (prodW l).cells) := H0.out.put? 0 _ (by simp) (by simp)
      have g2 := row_put hp (n := 18) (by simp)
      go_wp2_with fail
      exact bodyPost_row 18 (prodW l).cells rfl rfl rfl Tryz.underlying58 rfl info_Int g2 ⟨rfl, Below_putRow HB.out (Nat.le_refl _) _ _⟩
/-! ### Values of wide numbers here -/
theorem lim_big {n : Nat} (h : n ≤ 85070591730234615865843651857942052864) : n < lim := by
  have h2 : ∀ k, 127 ≤ k → 85070591730234615865843651857942052864 < 2 ^ k := fun k hk => Nat.lt_of_lt_of_le (by decide) (pow2_le 127 k hk)
  have h3 : ∀ k, k = 1023 → 85070591730234615865843651857942052864 < lim := fun k hk => by rw [lim_eq k hk]; exact h2 k (by omega)
  have := h3 1023 rfl
  omega
/-- The root, up, of a number that is not too great. -/
theorem wup_I (z : Int) (h0 : 0 ≤ z) (h1 : z ≤ 85070591730234615847396907784232501248) : wupV (WI.of z) = (upI z, 0) := by
  obtain ⟨n, rfl⟩ : ∃ n : Nat, z = n := ⟨z.toNat, by omega⟩
  have h2 : rt n < 9223372036854775807 := by
    have := rt_lt n 9223372036854775807 (by omega)
    omega
  rw [wup_nat n (lim_big (by omega)) h2]; rfl
theorem wdown_I (z : Int) (h0 : 0 ≤ z) (h1 : z ≤ 85070591730234615847396907784232501248) : wdownV (WI.of z) = (rtI z, 0) := by
  obtain ⟨n, rfl⟩ : ∃ n : Nat, z = n := ⟨z.toNat, by omega⟩
  have h2 : rt n < 9223372036854775807 := by
    have := rt_lt n 9223372036854775807 (by omega)
    omega
  rw [wdown_nat n (lim_big (by omega))]
  have h3 : (-9223372036854775808 : Int) ≤ ((rt n : Nat) : Int) ∧ ((rt n : Nat) : Int) ≤ 9223372036854775807 := by omega
  unfold fitI; rw [if_pos h3]; rfl
theorem prod3 (h m : Int) (hh : 0 ≤ h ∧ h ≤ 140737488355328) (hm : 0 ≤ m ∧ m ≤ 33554432) : prodW [h, m, m] = WI.of (h * (m * m)) ∧ 0 ≤ h * (m * m) ∧ h * (m * m) ≤ 158456325028528675187087900672 := by
  have s1 : Sm 47 h := by unfold Sm; omega
  have s2 : Sm 25 m := by unfold Sm; omega
  have q := Int.mul_nonneg hm.1 hm.1
  have q2 : m * m ≤ 33554432 * 33554432 := Int.mul_le_mul hm.2 hm.2 hm.1 (by decide)
  have q3 : h * (m * m) ≤ 140737488355328 * (33554432 * 33554432) := Int.mul_le_mul hh.2 q2 q (by decide)
  refine ⟨?_, Int.mul_nonneg hh.1 q, by omega⟩
  show (((WI.of 1).mul (WI.of h)).mul (WI.of m)).mul (WI.of m) = _
  have one : Sm 0 1 := by unfold Sm; decide
  rw [WI.of_mul (one.lim (by decide)) (s1.lim (by decide)), Int.one_mul, WI.of_mul (s1.lim (by decide)) (s2.lim (by decide)), WI.of_mul ((s1.mul s2).lim (by decide)) (s2.lim (by decide)), Int.mul_assoc]
theorem prod2 (k : Int) (hk : 0 ≤ k ∧ k ≤ 140737488355328) : prodW [k, k] = WI.of (k * k) ∧ 0 ≤ k * k ∧ k * k ≤ 19807040628566084398385987584 := by
  have s1 : Sm 47 k := by unfold Sm; omega
  have q2 : k * k ≤ 140737488355328 * 140737488355328 := Int.mul_le_mul hk.2 hk.2 hk.1 (by decide)
  refine ⟨?_, Int.mul_nonneg hk.1 hk.1, by omega⟩
  show ((WI.of 1).mul (WI.of k)).mul (WI.of k) = _
  have one : Sm 0 1 := by unfold Sm; decide
  rw [WI.of_mul (one.lim (by decide)) (s1.lim (by decide)), Int.one_mul, WI.of_mul (s1.lim (by decide)) (s1.lim (by decide))]
theorem left_I (a b : Int) (ha : 0 ≤ a ∧ a ≤ 158456325028528675187087900672) (hb : 0 ≤ b ∧ b ≤ 19807040628566084398385987584) : (WI.of a).sub (WI.of b) = WI.of (a - b) ∧ (WI.of (a - b)).sign = (a - b).sign := by
  have h1 : a.natAbs < lim := lim_big (by omega)
  have h2 : b.natAbs < lim := lim_big (by omega)
  have h3 : (a - b).natAbs < lim := lim_big (by omega)
  exact ⟨WI.of_sub h1 h2, WI.of_sign h3⟩
set_option maxRecDepth 100000 in
set_option maxHeartbeats 2000000 in
theorem along_c (x y a b d h k : Int) (he : El.may ⟨x, y, a, b, d⟩ = true) (hh : -8388608 ≤ h ∧ h ≤ 8388608) (hk : -8388608 ≤ k ∧ k ≤ 8388608) (w : World) :
    Calls Tryz.prog 77 #[elC x y a b d, ptV h k] w fun e w' => e = .returned (.tuple #[.int .i64 (upI (form a b d h k)), .int .i64 0]) ∧ Below w.heap.size w w' := by
  have HM := Lib.hid he
  have m := (El.may_iff _).1 he
  simp only at m
  have f0 := may_form _ he h k
  simp only at f0
  have f1 := form_small a b d h k (by omega) (by omega) (by omega) hh hk
  have EV := Lib.hid (wup_I _ f0 (by omega))
  have HWI : Hid (withinB h k 16777216 = true) := (withinB_iff _ _ _).2 (by omega)
  have HI : Hid (I64 a ∧ I64 b ∧ I64 d ∧ I64 h ∧ I64 k) := ⟨by unfold I64; omega, by unfold I64; omega, by unfold I64; omega, by unfold I64; omega, by unfold I64; omega⟩
  clear he hh hk m f0 f1
  go_enter Tryz.func77, Tryz.ntmps77
  go_wp2_with fail
  refine (ellmay_v _ _ _ _ _ _ HM.out _).mono ?_; rintro e w1 ⟨rfl, hb1⟩; have z_w1 := hb1.size; (try simp at z_w1); obtain ⟨y_w1_0_0, c_w1_0_0, f_w1_0_0, r_w1_0_0, t_w1_0_0, p_w1_0_0⟩ := bq hb1 (w.heap.size); obtain ⟨y_w1_0_1, c_w1_0_1, f_w1_0_1, r_w1_0_1, t_w1_0_1, p_w1_0_1⟩ := bq hb1 (w.heap.size + 1)
  go_wp2_with fail
  have WC := within_c h k 16777216 (by decide) w1
  rw [HWI.out] at WC
  refine WC.mono ?_; rintro e w2 ⟨rfl, hb2⟩; have z_w2 := hb2.size; (try simp at z_w2); obtain ⟨y_w2_0_0, c_w2_0_0, f_w2_0_0, r_w2_0_0, t_w2_0_0, p_w2_0_0⟩ := bq hb2 (w.heap.size); obtain ⟨y_w2_0_1, c_w2_0_1, f_w2_0_1, r_w2_0_1, t_w2_0_1, p_w2_0_1⟩ := bq hb2 (w.heap.size + 1)
  clear WC
  go_wp2_with fail
  refine (quad_c _ _ _ _ _ HI.out.1 HI.out.2.1 HI.out.2.2.1 HI.out.2.2.2.1 HI.out.2.2.2.2 _).mono ?_; rintro e w3 ⟨rfl, hb3⟩; have z_w3 := hb3.size; (try simp at z_w3); obtain ⟨y_w3_0_0, c_w3_0_0, f_w3_0_0, r_w3_0_0, t_w3_0_0, p_w3_0_0⟩ := bq hb3 (w.heap.size); obtain ⟨y_w3_0_1, c_w3_0_1, f_w3_0_1, r_w3_0_1, t_w3_0_1, p_w3_0_1⟩ := bq hb3 (w.heap.size + 1)
  go_wp2_with fail
  refine (wup_c _ _).mono ?_; rintro e w4 ⟨rfl, hb4⟩
  have z4 := hb4.size
  go_wp2_with fail
  go_ret2
  refine ⟨?_, below_byR⟩
  have E := EV.out
  unfold form at E ⊢
  rw [E]; rfl
end Go.Proofs.YtilginoibhfeiaaGreat
namespace Go.Proofs.YtilginoibhfeiaaGreat
open Go.RowKit

theorem prod3_v (h m : Int) (hh : 0 ≤ h ∧ h ≤ 140737488355328) (hm : 0 ≤ m ∧ m ≤ 33554432) (g : Nat) (w : World) (hg : Blk w g #[.int .i64 h, .int .i64 m, .int .i64 m] 2) :
    Calls Tryz.prog 149 #[.slice (some ⟨g, 0, none⟩) 3 3] w fun e w' => e = .returned (.agg (WI.of (h * (m * m))).cells) ∧ Below w.heap.size w w' := by
  have := product_c [h, m, m] g w (by simp) (by intro n hn; simp at hn; rcases hn with rfl | rfl <;> omega) hg
  rw [(prod3 h m hh hm).1] at this
  exact this
theorem prod2_v (k : Int) (hk : 0 ≤ k ∧ k ≤ 140737488355328) (g : Nat) (w : World) (hg : Blk w g #[.int .i64 k, .int .i64 k] 2) :
    Calls Tryz.prog 149 #[.slice (some ⟨g, 0, none⟩) 2 2] w fun e w' => e = .returned (.agg (WI.of (k * k)).cells) ∧ Below w.heap.size w w' := by
  have := product_c [k, k] g w (by simp) (by intro n hn; simp at hn; subst hn; omega) hg
  rw [(prod2 k hk).1] at this
  exact this
theorem sign_v (x : WI) (s : Int) (h : x.sign = s) (w : World) : Calls Tryz.prog 65 #[.agg x.cells] w fun e w' => e = .returned (.int .i64 s) ∧ Below w.heap.size w w' := by
  subst h; exact sign_I x w
set_option maxRecDepth 100000 in
set_option maxHeartbeats 4000000 in
theorem ends_c (h wd k m far : Int) (h1 : 0 ≤ h ∧ h ≤ 140737488355328) (h2 : 0 ≤ wd ∧ wd ≤ 140737488355328) (h3 : 0 ≤ k ∧ k ≤ 140737488355328) (h4 : 0 ≤ m ∧ m ≤ 33554432) (h5 : 0 ≤ far ∧ far ≤ 33554432) (w : World) :
    Calls Tryz.prog 78 #[.int .i64 h, .int .i64 wd, .int .i64 k, .int .i64 m, .int .i64 far] w fun e w' => e = .returned (.tuple #[.int .i64 (ringLo h wd k m), .int .i64 (ringHi h wd far), .int .i64 0]) ∧ Below w.heap.size w w' := by
  have p1 := (prod3 h m h1 h4).2
  have p2 := (prod3 h far h1 h5).2
  have p3 := (prod2 k h3).2
  have HL := Lib.hid (left_I (h * (m * m)) (k * k) p1 p3)
  have HH := Lib.hid h1
  have HK := Lib.hid h3
  have H4 := Lib.hid h4
  have H5 := Lib.hid h5
  obtain ⟨U, hU⟩ : ∃ U, upI (h * (far * far)) = U := ⟨_, rfl⟩
  have EU : Hid (wupV (WI.of (h * (far * far))) = (U, 0)) := by show _ = _; rw [wup_I _ p2.1 (by omega), hU]
  have EH : Hid (ringHi h wd far = min (h + wd) U) := by show _ = _; unfold ringHi; rw [hU]
  obtain ⟨L, hLL⟩ : ∃ L, h * (m * m) - k * k = L := ⟨_, rfl⟩
  rw [hLL] at HL
  have wr1 : wrap64 (h - wd) = h - wd := by unfold wrap64; omega
  have wr2 : wrap64 (h + wd) = h + wd := by unfold wrap64; omega
  obtain ⟨h11, h12⟩ := h1
  obtain ⟨h21, h22⟩ := h2
  by_cases c1 : 0 < h - wd
  · by_cases c2 : 0 < L
    · obtain ⟨n, hn⟩ : ∃ n, rtI L = n := ⟨_, rfl⟩
      have ER : Hid (wdownV (WI.of L) = (n, 0)) := by show _ = _; rw [wdown_I L (by omega) (by omega), hn]
      have EL : Hid (ringLo h wd k m = max (h - wd) n) := by show _ = _; unfold ringLo; rw [hLL, if_pos ⟨c1, c2⟩, hn]
      have ES : Hid ((WI.of L).sign = 1) := by show _ = _; rw [HL.out.2]; exact Int.sign_eq_one_of_pos c2
      clear h3 h4 h5 p1 p2 p3 hU hLL hn c2 h11 h12 h21 h22
      go_enter Tryz.func78, Tryz.ntmps78
      go_wp2_with fail
      refine (prod3_v _ _ HH.out H4.out _ _ (Blk.new _ _ _)).mono ?_; rintro e w1 ⟨rfl, hb1⟩; have z1 := hb1.size; (try simp at z1)
      go_wp2_with fail
      refine (prod2_v _ HK.out _ _ (Blk.new _ _ _)).mono ?_; rintro e w2 ⟨rfl, hb2⟩; have z2 := hb2.size; (try simp at z2)
      go_wp2_with fail
      refine (sub_I _ _ _).mono ?_; rintro e w3 ⟨rfl, hb3⟩; rw [HL.out.1]; have z3 := hb3.size; (try simp at z3)
      go_wp2_with fail
      refine (sign_v _ _ ES.out _).mono ?_; rintro e w4 ⟨rfl, hb4⟩; have z_w4 := hb4.size; (try simp at z_w4); obtain ⟨y_w4_0_0, c_w4_0_0, f_w4_0_0, r_w4_0_0, t_w4_0_0, p_w4_0_0⟩ := bq hb4 (w3.heap.size)
      go_wp2_with fail
      have WD := wdown_c (WI.of L) w4
      rw [ER.out] at WD
      refine WD.mono ?_; rintro e w5 ⟨rfl, hb5⟩; have z5 := hb5.size; (try simp at z5)
      clear WD
      go_wp2_with fail
      refine (prod3_v _ _ HH.out H5.out _ _ (Blk.new _ _ _)).mono ?_; rintro e w6 ⟨rfl, hb6⟩; have z6 := hb6.size; (try simp at z6)
      go_wp2_with fail
      have WU := wup_c (WI.of (h * (far * far))) w6
      rw [EU.out] at WU
      refine WU.mono ?_; rintro e w7 ⟨rfl, hb7⟩; have z7 := hb7.size; (try simp at z7)
      clear WU
      go_wp2_with fail
      go_ret3
      exact ⟨by rw [EL.out, EH.out]; rfl, below_byR⟩
    · have EL : Hid (ringLo h wd k m = h - wd) := by show _ = _; unfold ringLo; rw [hLL, if_neg (fun h => c2 h.2)]
      have ES : ∃ sg, (WI.of L).sign = sg ∧ ¬ 0 < sg := by
        refine ⟨_, rfl, ?_⟩; rw [HL.out.2]
        rcases Int.lt_or_eq_of_le (Int.not_lt.1 c2) with c | c
        · rw [Int.sign_eq_neg_one_of_neg c]; decide
        · rw [c]; decide
      obtain ⟨sg, es, hsg⟩ := ES
      have ES := Lib.hid es
      clear h3 h4 h5 p1 p2 p3 hU hLL c2 h11 h12 h21 h22 es
      go_enter Tryz.func78, Tryz.ntmps78
      go_wp2_with fail
      refine (prod3_v _ _ HH.out H4.out _ _ (Blk.new _ _ _)).mono ?_; rintro e w1 ⟨rfl, hb1⟩; have z1 := hb1.size; (try simp at z1)
      go_wp2_with fail
      refine (prod2_v _ HK.out _ _ (Blk.new _ _ _)).mono ?_; rintro e w2 ⟨rfl, hb2⟩; have z2 := hb2.size; (try simp at z2)
      go_wp2_with fail
      refine (sub_I _ _ _).mono ?_; rintro e w3 ⟨rfl, hb3⟩; rw [HL.out.1]; have z3 := hb3.size; (try simp at z3)
      go_wp2_with fail
      refine (sign_v _ _ ES.out _).mono ?_; rintro e w4 ⟨rfl, hb4⟩; have z_w4 := hb4.size; (try simp at z_w4); obtain ⟨y_w4_0_0, c_w4_0_0, f_w4_0_0, r_w4_0_0, t_w4_0_0, p_w4_0_0⟩ := bq hb4 (w3.heap.size)
      have z5 := z_w4
      go_wp2_with fail
      refine (prod3_v _ _ HH.out H5.out _ _ (Blk.new _ _ _)).mono ?_; rintro e w6 ⟨rfl, hb6⟩; have z6 := hb6.size; (try simp at z6)
      go_wp2_with fail
      have WU := wup_c (WI.of (h * (far * far))) w6
      rw [EU.out] at WU
      refine WU.mono ?_; rintro e w7 ⟨rfl, hb7⟩; have z7 := hb7.size; (try simp at z7)
      clear WU
      go_wp2_with fail
      go_ret3
      exact ⟨by rw [EL.out, EH.out]; rfl, below_byR⟩
  · have EL : Hid (ringLo h wd k m = h - wd) := by show _ = _; unfold ringLo; rw [if_neg (fun h => c1 h.1)]
    clear h3 h4 h5 p1 p2 p3 hU hLL h11 h12 h21 h22
    go_enter Tryz.func78, Tryz.ntmps78
    go_wp2_with fail
    refine (prod3_v _ _ HH.out H5.out _ _ (Blk.new _ _ _)).mono ?_; rintro e w6 ⟨rfl, hb6⟩; have z6 := hb6.size; (try simp at z6)
    go_wp2_with fail
    have WU := wup_c (WI.of (h * (far * far))) w6
    rw [EU.out] at WU
    refine WU.mono ?_; rintro e w7 ⟨rfl, hb7⟩; have z7 := hb7.size; (try simp at z7)
    clear WU
    go_wp2_with fail
    go_ret3
    exact ⟨by rw [EL.out, EH.out]; rfl, below_byR⟩
/-! ### Ring -/
theorem ring_cases (e n : El) (lo hi : Int) : (e.may = false) ∨ (e.may = true ∧ n.may = false) ∨ (e.may = true ∧ n.may = true ∧ mayRange lo hi = false) ∨ (e.may = true ∧ n.may = true ∧ mayRange lo hi = true) := by
  cases e.may <;> cases n.may <;> cases mayRange lo hi <;> simp
theorem ring_no (e n : El) (lo hi : Int) (h : e.may = false ∨ n.may = false ∨ mayRange lo hi = false) : ringE e n lo hi = (⟨0, 0, 0, 0, 0, 0⟩, 1) := by
  unfold ringE; rw [if_neg]; rintro ⟨h1, h2, h3⟩; rw [h1, h2, h3] at h; simp at h
theorem rad_v (x y a b d r : Int) (h : El.rad ⟨x, y, a, b, d⟩ = r) (w : World) : Calls Tryz.prog 76 #[elC x y a b d] w fun e w' => e = .returned (.int .i64 r) ∧ Below w.heap.size w w' := by
  have := ellrad_c x y a b d w
  rw [h] at this; exact this
end Go.Proofs.YtilginoibhfeiaaGreat
namespace Go.Proofs.YtilginoibhfeiaaGreat
open Go.RowKit

theorem ring_yes (e n : El) (lo hi : Int) (he : e.may = true) (hn : n.may = true) (hr : mayRange lo hi = true) (X Y h wd k m far : Int) (hX : e.x - n.x = X) (hY : e.y - n.y = Y) (hh : X * X + Y * Y = h)
    (hw : upI (form e.a e.b e.d X Y) = wd) (hk : upI (form e.a e.b e.d (-Y) X) = k) (hm : max 0 (lo - n.rad) = m) (hf : hi + n.rad = far) (hne : ¬ (X = 0 ∧ Y = 0)) :
    ringE e n lo hi = ringEnd n.x n.y X Y (ringLo h wd k m) (ringHi h wd far) := by
  unfold ringE; rw [if_pos ⟨he, hn, hr⟩, hX, hY, hh, hw, hk, hm, hf, if_neg hne]
set_option maxRecDepth 100000 in
set_option maxHeartbeats 4000000 in
theorem ring_mainX (x y a b d x' y' a' b' d' lo hi : Int) (he : El.may ⟨x, y, a, b, d⟩ = true) (hn : El.may ⟨x', y', a', b', d'⟩ = true) (hr : mayRange lo hi = true) (hX0 : ¬ x - x' = 0) (w : World) :
    Calls Tryz.prog 20 #[elC x y a b d, elC x' y' a' b' d', .int .i64 lo, .int .i64 hi] w fun e w' => e = .returned (.tuple #[stV (ringE ⟨x, y, a, b, d⟩ ⟨x', y', a', b', d'⟩ lo hi).1, .int .i64 (ringE ⟨x, y, a, b, d⟩ ⟨x', y', a', b', d'⟩ lo hi).2]) ∧ Below w.heap.size w w' := by
  have hne : ¬ (x - x' = 0 ∧ y - y' = 0) := fun h => hX0 h.1
  have cs := centres _ _ he hn
  have al := along_small _ _ he hn
  have rl := El.rad_le ⟨x', y', a', b', d'⟩
  have r0 := rad_nat ⟨x', y', a', b', d'⟩
  have hrr := (mayRange_iff _ _).1 hr
  obtain ⟨X, hX⟩ : ∃ X, x - x' = X := ⟨_, rfl⟩
  obtain ⟨Y, hY⟩ : ∃ Y, y - y' = Y := ⟨_, rfl⟩
  obtain ⟨R, hR⟩ : ∃ R, El.rad ⟨x', y', a', b', d'⟩ = R := ⟨_, rfl⟩
  obtain ⟨P, hP⟩ : ∃ P, X * X = P := ⟨_, rfl⟩
  obtain ⟨Q, hQ⟩ : ∃ Q, Y * Y = Q := ⟨_, rfl⟩
  obtain ⟨h, hh⟩ : ∃ h, P + Q = h := ⟨_, rfl⟩
  obtain ⟨wd, hw⟩ : ∃ h, upI (form a b d X Y) = h := ⟨_, rfl⟩
  obtain ⟨k, hk⟩ : ∃ h, upI (form a b d (-Y) X) = h := ⟨_, rfl⟩
  obtain ⟨m, hm⟩ : ∃ h, max 0 (lo - R) = h := ⟨_, rfl⟩
  obtain ⟨far, hf⟩ : ∃ h, hi + R = h := ⟨_, rfl⟩
  obtain ⟨nY, hnY⟩ : ∃ h, -Y = h := ⟨_, rfl⟩
  obtain ⟨lR, hlR⟩ : ∃ h, lo - R = h := ⟨_, rfl⟩
  simp only [hX, hY] at cs al
  rw [hw, hk] at al
  rw [hR] at rl r0
  rw [hX, hY] at hne
  rw [hX] at hX0
  have hX1 : (X == 0) = false := by simp [hX0]
  have hX2 : decide (X = 0) = false := by simp [hX0]
  have q1 := sqb X 8388608 cs.1.1 cs.1.2
  have q2 := sqb Y 8388608 cs.2.1 cs.2.2
  rw [hP] at q1
  rw [hQ] at q2
  have EQ := Lib.hid (ring_yes ⟨x, y, a, b, d⟩ ⟨x', y', a', b', d'⟩ lo hi he hn hr X Y h wd k m far hX hY (by rw [hP, hQ, hh]) hw hk (by rw [hR, hm]) (by rw [hR, hf]) hne)
  have ME := Lib.hid he
  have MN := Lib.hid hn
  have MR := Lib.hid hr
  have ER := Lib.hid hR
  have EW := Lib.hid hw
  rw [hnY] at hk
  have EK := Lib.hid hk
  have RX : Hid (-8388608 ≤ X ∧ X ≤ 8388608) := cs.1
  have RY : Hid (-8388608 ≤ Y ∧ Y ≤ 8388608) := cs.2
  have RN : Hid (-8388608 ≤ nY ∧ nY ≤ 8388608) := show _ ∧ _ from by omega
  have Rh : Hid (0 ≤ h ∧ h ≤ 140737488355328) := show _ ∧ _ from by omega
  have Rw : Hid (0 ≤ wd ∧ wd ≤ 140737488355328) := al.1
  have Rk : Hid (0 ≤ k ∧ k ≤ 140737488355328) := al.2
  have Rm : Hid (0 ≤ m ∧ m ≤ 33554432) := show _ ∧ _ from by omega
  have Rf : Hid (0 ≤ far ∧ far ≤ 33554432) := show _ ∧ _ from by omega
  have wr1 : wrap64 (x - x') = X := by rw [hX]; unfold wrap64; omega
  have wr2 : wrap64 (y - y') = Y := by rw [hY]; unfold wrap64; omega
  have wr3 : wrap64 (X * X) = P := by rw [hP]; unfold wrap64; omega
  have wr4 : wrap64 (Y * Y) = Q := by rw [hQ]; unfold wrap64; omega
  have wr5 : wrap64 (P + Q) = h := by rw [hh]; unfold wrap64; omega
  have wr6 : wrap64 (-Y) = nY := by rw [hnY]; unfold wrap64; omega
  have wr7 : wrap64 (lo - R) = lR := by rw [hlR]; unfold wrap64; omega
  have wr8 : wrap64 (hi + R) = far := by rw [hf]; unfold wrap64; omega
  have hm' : max 0 lR = m := by rw [← hlR]; exact hm
  obtain ⟨lo', hlo⟩ : ∃ z, ringLo h wd k m = z := ⟨_, rfl⟩
  obtain ⟨hi', hhi⟩ : ∃ z, ringHi h wd far = z := ⟨_, rfl⟩
  have KE : Hid (∀ w, Calls Tryz.prog 78 #[.int .i64 h, .int .i64 wd, .int .i64 k, .int .i64 m, .int .i64 far] w fun e w' => e = .returned (.tuple #[.int .i64 lo', .int .i64 hi', .int .i64 0]) ∧ Below w.heap.size w w') := by
    intro w; have := ends_c h wd k m far Rh.out Rw.out Rk.out Rm.out Rf.out w; rw [hlo, hhi] at this; exact this
  rw [hlo, hhi] at EQ
  have BD : Hid (-1000000000000000 ≤ hi' ∧ hi' ≤ 1000000000000000) := by
    show _ ∧ _
    have u0 : 0 ≤ upI (h * (far * far)) := by unfold upI; omega
    rw [← hhi]; unfold ringHi
    omega
  clear hR hP hQ hh hw hk hm hf hnY hlR hlo hhi cs al rl r0 hrr q1 q2 hX hY he hn hr hne
  go_enter Tryz.func20, Tryz.ntmps20
  go_wp2_with fail
  refine (ellmay_v _ _ _ _ _ _ ME.out _).mono ?_; rintro e w1 ⟨rfl, hb1⟩; have z_w1 := hb1.size; (try simp at z_w1); obtain ⟨y_w1_0_0, c_w1_0_0, f_w1_0_0, r_w1_0_0, t_w1_0_0, p_w1_0_0⟩ := bq hb1 (w.heap.size); obtain ⟨y_w1_0_1, c_w1_0_1, f_w1_0_1, r_w1_0_1, t_w1_0_1, p_w1_0_1⟩ := bq hb1 (w.heap.size + 1); obtain ⟨y_w1_0_2, c_w1_0_2, f_w1_0_2, r_w1_0_2, t_w1_0_2, p_w1_0_2⟩ := bq hb1 (w.heap.size + 1 + 1)
  go_wp2_with fail
  refine (ellmay_v _ _ _ _ _ _ MN.out _).mono ?_; rintro e w2 ⟨rfl, hb2⟩; have z_w2 := hb2.size; (try simp at z_w2); obtain ⟨y_w2_0_0, c_w2_0_0, f_w2_0_0, r_w2_0_0, t_w2_0_0, p_w2_0_0⟩ := bq hb2 (w.heap.size); obtain ⟨y_w2_0_1, c_w2_0_1, f_w2_0_1, r_w2_0_1, t_w2_0_1, p_w2_0_1⟩ := bq hb2 (w.heap.size + 1); obtain ⟨y_w2_0_2, c_w2_0_2, f_w2_0_2, r_w2_0_2, t_w2_0_2, p_w2_0_2⟩ := bq hb2 (w.heap.size + 1 + 1)
  go_wp2_with fail
  refine (smay_v _ _ _ MR.out _).mono ?_; rintro e w3 ⟨rfl, hb3⟩; have z_w3 := hb3.size; (try simp at z_w3); obtain ⟨y_w3_0_0, c_w3_0_0, f_w3_0_0, r_w3_0_0, t_w3_0_0, p_w3_0_0⟩ := bq hb3 (w.heap.size); obtain ⟨y_w3_0_1, c_w3_0_1, f_w3_0_1, r_w3_0_1, t_w3_0_1, p_w3_0_1⟩ := bq hb3 (w.heap.size + 1); obtain ⟨y_w3_0_2, c_w3_0_2, f_w3_0_2, r_w3_0_2, t_w3_0_2, p_w3_0_2⟩ := bq hb3 (w.heap.size + 1 + 1)
  go_wp2_with fail
  refine (rad_v _ _ _ _ _ _ ER.out _).mono ?_; rintro e w4 ⟨rfl, hb4⟩; have z_w4 := hb4.size; (try simp at z_w4); obtain ⟨y_w4_0_0, c_w4_0_0, f_w4_0_0, r_w4_0_0, t_w4_0_0, p_w4_0_0⟩ := bq hb4 (w.heap.size); obtain ⟨y_w4_0_1, c_w4_0_1, f_w4_0_1, r_w4_0_1, t_w4_0_1, p_w4_0_1⟩ := bq hb4 (w.heap.size + 1); obtain ⟨y_w4_0_2, c_w4_0_2, f_w4_0_2, r_w4_0_2, t_w4_0_2, p_w4_0_2⟩ := bq hb4 (w.heap.size + 1 + 1); obtain ⟨y_w4_1_0, c_w4_1_0, f_w4_1_0, r_w4_1_0, t_w4_1_0, p_w4_1_0⟩ := bq hb4 (w3.heap.size)
  go_wp2_with fail
  have AL := along_c x y a b d X Y ME.out RX.out RY.out w4
  rw [EW.out] at AL
  refine AL.mono ?_; rintro e w5 ⟨rfl, hb5⟩; have z_w5 := hb5.size; (try simp at z_w5); obtain ⟨y_w5_0_0, c_w5_0_0, f_w5_0_0, r_w5_0_0, t_w5_0_0, p_w5_0_0⟩ := bq hb5 (w.heap.size); obtain ⟨y_w5_0_1, c_w5_0_1, f_w5_0_1, r_w5_0_1, t_w5_0_1, p_w5_0_1⟩ := bq hb5 (w.heap.size + 1); obtain ⟨y_w5_0_2, c_w5_0_2, f_w5_0_2, r_w5_0_2, t_w5_0_2, p_w5_0_2⟩ := bq hb5 (w.heap.size + 1 + 1); obtain ⟨y_w5_1_0, c_w5_1_0, f_w5_1_0, r_w5_1_0, t_w5_1_0, p_w5_1_0⟩ := bq hb5 (w3.heap.size)
  clear AL
  go_wp2_with fail
  have AL := along_c x y a b d nY X ME.out RN.out RX.out w5
  rw [EK.out] at AL
  refine AL.mono ?_; rintro e w6 ⟨rfl, hb6⟩; have z_w6 := hb6.size; (try simp at z_w6); obtain ⟨y_w6_0_0, c_w6_0_0, f_w6_0_0, r_w6_0_0, t_w6_0_0, p_w6_0_0⟩ := bq hb6 (w.heap.size); obtain ⟨y_w6_0_1, c_w6_0_1, f_w6_0_1, r_w6_0_1, t_w6_0_1, p_w6_0_1⟩ := bq hb6 (w.heap.size + 1); obtain ⟨y_w6_0_2, c_w6_0_2, f_w6_0_2, r_w6_0_2, t_w6_0_2, p_w6_0_2⟩ := bq hb6 (w.heap.size + 1 + 1); obtain ⟨y_w6_1_0, c_w6_1_0, f_w6_1_0, r_w6_1_0, t_w6_1_0, p_w6_1_0⟩ := bq hb6 (w3.heap.size)
  clear AL
  go_wp2_with fail
  refine (KE.out _).mono ?_; rintro e w7 ⟨rfl, hb7⟩; have z_w7 := hb7.size; (try simp at z_w7); obtain ⟨y_w7_0_0, c_w7_0_0, f_w7_0_0, r_w7_0_0, t_w7_0_0, p_w7_0_0⟩ := bq hb7 (w.heap.size); obtain ⟨y_w7_0_1, c_w7_0_1, f_w7_0_1, r_w7_0_1, t_w7_0_1, p_w7_0_1⟩ := bq hb7 (w.heap.size + 1); obtain ⟨y_w7_0_2, c_w7_0_2, f_w7_0_2, r_w7_0_2, t_w7_0_2, p_w7_0_2⟩ := bq hb7 (w.heap.size + 1 + 1); obtain ⟨y_w7_1_0, c_w7_1_0, f_w7_1_0, r_w7_1_0, t_w7_1_0, p_w7_1_0⟩ := bq hb7 (w3.heap.size)
  by_cases l1 : hi' < lo'
  · have EV : Hid (ringE ⟨x, y, a, b, d⟩ ⟨x', y', a', b', d'⟩ lo hi = (⟨0, 0, 0, 0, 0, 0⟩, 3)) := by show _ = _; rw [EQ.out]; unfold ringEnd; rw [if_pos l1]
    go_wp2_with fail
    exact bodyPost_row_t 6 #[.int .i64 0, .int .i64 0, .int .i64 0, .int .i64 0, .int .i64 0, .int .i64 0] (.int .i64 3) rfl rfl rfl rfl Tryz.underlying39 rfl (by kernel_rfl) (row_of_cells 5 _ rfl (by intro i hi; rcases i with _ | _ | _ | _ | _ | _ | i; (go_simp); (go_simp); (go_simp); (go_simp); (go_simp); (go_simp); exact absurd hi (by omega))) ⟨by rw [EV.out], below_byR⟩
  · by_cases l2 : hi' = lo'
    · have EV : Hid (ringE ⟨x, y, a, b, d⟩ ⟨x', y', a', b', d'⟩ lo hi = (⟨x', y', X, Y, lo', hi' + 1⟩, 0)) := by show _ = _; rw [EQ.out]; unfold ringEnd; rw [if_neg l1, if_pos l2]
      subst l2
      have l4 : wrap64 (hi' + 1) = hi' + 1 := by have := BD.out; unfold wrap64; omega
      have B7 : Blk w7 w3.heap.size #[.int .i64 x', .int .i64 y', .int .i64 X, .int .i64 Y, .int .i64 0, .int .i64 0] 39 := ((((Blk.new w3 _ _).keep hb4).keep hb5).keep hb6).keep hb7
      have c7 : (((w7.setCell ⟨w3.heap.size, 4, none⟩ (.int .i64 hi')).setCell ⟨w3.heap.size, 5, none⟩ (.int .i64 hi')).setCell ⟨w3.heap.size, 5, none⟩ (.int .i64 (hi' + 1))).cell? ⟨w3.heap.size, 5, none⟩ = some (.int .i64 (hi' + 1)) :=
        (((B7.setCell_same 4 _).setCell_same 5 _).setCell_same 5 _).cell rfl
      clear B7
      go_wp2_with fail
      exact bodyPost_row_t 6 #[.int .i64 x', .int .i64 y', .int .i64 X, .int .i64 Y, .int .i64 hi', .int .i64 (hi' + 1)] (.int .i64 0) rfl rfl rfl rfl Tryz.underlying39 rfl (by kernel_rfl) (row_of_cells 5 _ rfl (by intro i hi; rcases i with _ | _ | _ | _ | _ | _ | i; (go_simp); (go_simp); (go_simp); (go_simp); (go_simp); (go_simp); exact absurd hi (by omega))) ⟨by rw [EV.out], below_byR⟩
    · have EV : Hid (ringE ⟨x, y, a, b, d⟩ ⟨x', y', a', b', d'⟩ lo hi = (⟨x', y', X, Y, lo', hi'⟩, 0)) := by show _ = _; rw [EQ.out]; unfold ringEnd; rw [if_neg l1, if_neg l2]
      have l3 : (hi' == lo') = false := by simp [l2]
      go_wp2_with fail
      exact bodyPost_row_t 6 #[.int .i64 x', .int .i64 y', .int .i64 X, .int .i64 Y, .int .i64 lo', .int .i64 hi'] (.int .i64 0) rfl rfl rfl rfl Tryz.underlying39 rfl (by kernel_rfl) (row_of_cells 5 _ rfl (by intro i hi; rcases i with _ | _ | _ | _ | _ | _ | i; (go_simp); (go_simp); (go_simp); (go_simp); (go_simp); (go_simp); exact absurd hi (by omega))) ⟨by rw [EV.out], below_byR⟩
set_option maxRecDepth 100000 in
set_option maxHeartbeats 4000000 in
theorem ring_mainY (x y a b d y' a' b' d' lo hi : Int) (he : El.may ⟨x, y, a, b, d⟩ = true) (hn : El.may ⟨x, y', a', b', d'⟩ = true) (hr : mayRange lo hi = true) (hY0 : ¬ y - y' = 0) (w : World) :
    Calls Tryz.prog 20 #[elC x y a b d, elC x y' a' b' d', .int .i64 lo, .int .i64 hi] w fun e w' => e = .returned (.tuple #[stV (ringE ⟨x, y, a, b, d⟩ ⟨x, y', a', b', d'⟩ lo hi).1, .int .i64 (ringE ⟨x, y, a, b, d⟩ ⟨x, y', a', b', d'⟩ lo hi).2]) ∧ Below w.heap.size w w' := by
  have hne : ¬ (x - x = 0 ∧ y - y' = 0) := fun h => hY0 h.2
  have cs := centres _ _ he hn
  have al := along_small _ _ he hn
  have rl := El.rad_le ⟨x, y', a', b', d'⟩
  have r0 := rad_nat ⟨x, y', a', b', d'⟩
  have hrr := (mayRange_iff _ _).1 hr
  have hX : x - x = 0 := by omega
  obtain ⟨Y, hY⟩ : ∃ Y, y - y' = Y := ⟨_, rfl⟩
  obtain ⟨R, hR⟩ : ∃ R, El.rad ⟨x, y', a', b', d'⟩ = R := ⟨_, rfl⟩
  obtain ⟨P, hP⟩ : ∃ P, (0 : Int) * 0 = P := ⟨_, rfl⟩
  obtain ⟨Q, hQ⟩ : ∃ Q, Y * Y = Q := ⟨_, rfl⟩
  obtain ⟨h, hh⟩ : ∃ h, P + Q = h := ⟨_, rfl⟩
  obtain ⟨wd, hw⟩ : ∃ h, upI (form a b d 0 Y) = h := ⟨_, rfl⟩
  obtain ⟨k, hk⟩ : ∃ h, upI (form a b d (-Y) 0) = h := ⟨_, rfl⟩
  obtain ⟨m, hm⟩ : ∃ h, max 0 (lo - R) = h := ⟨_, rfl⟩
  obtain ⟨far, hf⟩ : ∃ h, hi + R = h := ⟨_, rfl⟩
  obtain ⟨nY, hnY⟩ : ∃ h, -Y = h := ⟨_, rfl⟩
  obtain ⟨lR, hlR⟩ : ∃ h, lo - R = h := ⟨_, rfl⟩
  simp only [hX, hY] at cs al
  rw [hw, hk] at al
  rw [hR] at rl r0
  rw [hX, hY] at hne
  rw [hY] at hY0
  have hY1 : (Y == 0) = false := by simp [hY0]
  have hY2 : decide (Y = 0) = false := by simp [hY0]
  have q2 := sqb Y 8388608 cs.2.1 cs.2.2
  rw [hQ] at q2
  have EQ := Lib.hid (ring_yes ⟨x, y, a, b, d⟩ ⟨x, y', a', b', d'⟩ lo hi he hn hr 0 Y h wd k m far hX hY (by rw [hP, hQ, hh]) hw hk (by rw [hR, hm]) (by rw [hR, hf]) hne)
  have ME := Lib.hid he
  have MN := Lib.hid hn
  have MR := Lib.hid hr
  have ER := Lib.hid hR
  have EW := Lib.hid hw
  rw [hnY] at hk
  have EK := Lib.hid hk
  have RX : Hid (-8388608 ≤ (0 : Int) ∧ (0 : Int) ≤ 8388608) := cs.1
  have RY : Hid (-8388608 ≤ Y ∧ Y ≤ 8388608) := cs.2
  have RN : Hid (-8388608 ≤ nY ∧ nY ≤ 8388608) := show _ ∧ _ from by omega
  have Rh : Hid (0 ≤ h ∧ h ≤ 140737488355328) := show _ ∧ _ from by omega
  have Rw : Hid (0 ≤ wd ∧ wd ≤ 140737488355328) := al.1
  have Rk : Hid (0 ≤ k ∧ k ≤ 140737488355328) := al.2
  have Rm : Hid (0 ≤ m ∧ m ≤ 33554432) := show _ ∧ _ from by omega
  have Rf : Hid (0 ≤ far ∧ far ≤ 33554432) := show _ ∧ _ from by omega
  have wr2 : wrap64 (y - y') = Y := by rw [hY]; unfold wrap64; omega
  have wr4 : wrap64 (Y * Y) = Q := by rw [hQ]; unfold wrap64; omega
  have wr5 : wrap64 Q = h := by unfold wrap64; omega
  have wr6 : wrap64 (-Y) = nY := by rw [hnY]; unfold wrap64; omega
  have wr7 : wrap64 (lo - R) = lR := by rw [hlR]; unfold wrap64; omega
  have wr8 : wrap64 (hi + R) = far := by rw [hf]; unfold wrap64; omega
  have hm' : max 0 lR = m := by rw [← hlR]; exact hm
  obtain ⟨lo', hlo⟩ : ∃ z, ringLo h wd k m = z := ⟨_, rfl⟩
  obtain ⟨hi', hhi⟩ : ∃ z, ringHi h wd far = z := ⟨_, rfl⟩
  have KE : Hid (∀ w, Calls Tryz.prog 78 #[.int .i64 h, .int .i64 wd, .int .i64 k, .int .i64 m, .int .i64 far] w fun e w' => e = .returned (.tuple #[.int .i64 lo', .int .i64 hi', .int .i64 0]) ∧ Below w.heap.size w w') := by
    intro w; have := ends_c h wd k m far Rh.out Rw.out Rk.out Rm.out Rf.out w; rw [hlo, hhi] at this; exact this
  rw [hlo, hhi] at EQ
  have BD : Hid (-1000000000000000 ≤ hi' ∧ hi' ≤ 1000000000000000) := by
    show _ ∧ _
    have u0 : 0 ≤ upI (h * (far * far)) := by unfold upI; omega
    rw [← hhi]; unfold ringHi
    omega
  clear hR hP hQ hh hw hk hm hf hnY hlR hlo hhi cs al rl r0 hrr q2 hX hY he hn hr hne
  go_enter Tryz.func20, Tryz.ntmps20
  go_wp2_with fail
  refine (ellmay_v _ _ _ _ _ _ ME.out _).mono ?_; rintro e w1 ⟨rfl, hb1⟩; have z_w1 := hb1.size; (try simp at z_w1); obtain ⟨y_w1_0_0, c_w1_0_0, f_w1_0_0, r_w1_0_0, t_w1_0_0, p_w1_0_0⟩ := bq hb1 (w.heap.size); obtain ⟨y_w1_0_1, c_w1_0_1, f_w1_0_1, r_w1_0_1, t_w1_0_1, p_w1_0_1⟩ := bq hb1 (w.heap.size + 1); obtain ⟨y_w1_0_2, c_w1_0_2, f_w1_0_2, r_w1_0_2, t_w1_0_2, p_w1_0_2⟩ := bq hb1 (w.heap.size + 1 + 1)
  go_wp2_with fail
  refine (ellmay_v _ _ _ _ _ _ MN.out _).mono ?_; rintro e w2 ⟨rfl, hb2⟩; have z_w2 := hb2.size; (try simp at z_w2); obtain ⟨y_w2_0_0, c_w2_0_0, f_w2_0_0, r_w2_0_0, t_w2_0_0, p_w2_0_0⟩ := bq hb2 (w.heap.size); obtain ⟨y_w2_0_1, c_w2_0_1, f_w2_0_1, r_w2_0_1, t_w2_0_1, p_w2_0_1⟩ := bq hb2 (w.heap.size + 1); obtain ⟨y_w2_0_2, c_w2_0_2, f_w2_0_2, r_w2_0_2, t_w2_0_2, p_w2_0_2⟩ := bq hb2 (w.heap.size + 1 + 1)
  go_wp2_with fail
  refine (smay_v _ _ _ MR.out _).mono ?_; rintro e w3 ⟨rfl, hb3⟩; have z_w3 := hb3.size; (try simp at z_w3); obtain ⟨y_w3_0_0, c_w3_0_0, f_w3_0_0, r_w3_0_0, t_w3_0_0, p_w3_0_0⟩ := bq hb3 (w.heap.size); obtain ⟨y_w3_0_1, c_w3_0_1, f_w3_0_1, r_w3_0_1, t_w3_0_1, p_w3_0_1⟩ := bq hb3 (w.heap.size + 1); obtain ⟨y_w3_0_2, c_w3_0_2, f_w3_0_2, r_w3_0_2, t_w3_0_2, p_w3_0_2⟩ := bq hb3 (w.heap.size + 1 + 1)
  go_wp2_with fail
  refine (rad_v _ _ _ _ _ _ ER.out _).mono ?_; rintro e w4 ⟨rfl, hb4⟩; have z_w4 := hb4.size; (try simp at z_w4); obtain ⟨y_w4_0_0, c_w4_0_0, f_w4_0_0, r_w4_0_0, t_w4_0_0, p_w4_0_0⟩ := bq hb4 (w.heap.size); obtain ⟨y_w4_0_1, c_w4_0_1, f_w4_0_1, r_w4_0_1, t_w4_0_1, p_w4_0_1⟩ := bq hb4 (w.heap.size + 1); obtain ⟨y_w4_0_2, c_w4_0_2, f_w4_0_2, r_w4_0_2, t_w4_0_2, p_w4_0_2⟩ := bq hb4 (w.heap.size + 1 + 1); obtain ⟨y_w4_1_0, c_w4_1_0, f_w4_1_0, r_w4_1_0, t_w4_1_0, p_w4_1_0⟩ := bq hb4 (w3.heap.size)
  go_wp2_with fail
  have AL := along_c x y a b d 0 Y ME.out RX.out RY.out w4
  rw [EW.out] at AL
  refine AL.mono ?_; rintro e w5 ⟨rfl, hb5⟩; have z_w5 := hb5.size; (try simp at z_w5); obtain ⟨y_w5_0_0, c_w5_0_0, f_w5_0_0, r_w5_0_0, t_w5_0_0, p_w5_0_0⟩ := bq hb5 (w.heap.size); obtain ⟨y_w5_0_1, c_w5_0_1, f_w5_0_1, r_w5_0_1, t_w5_0_1, p_w5_0_1⟩ := bq hb5 (w.heap.size + 1); obtain ⟨y_w5_0_2, c_w5_0_2, f_w5_0_2, r_w5_0_2, t_w5_0_2, p_w5_0_2⟩ := bq hb5 (w.heap.size + 1 + 1); obtain ⟨y_w5_1_0, c_w5_1_0, f_w5_1_0, r_w5_1_0, t_w5_1_0, p_w5_1_0⟩ := bq hb5 (w3.heap.size)
  clear AL
  go_wp2_with fail
  have AL := along_c x y a b d nY 0 ME.out RN.out RX.out w5
  rw [EK.out] at AL
  refine AL.mono ?_; rintro e w6 ⟨rfl, hb6⟩; have z_w6 := hb6.size; (try simp at z_w6); obtain ⟨y_w6_0_0, c_w6_0_0, f_w6_0_0, r_w6_0_0, t_w6_0_0, p_w6_0_0⟩ := bq hb6 (w.heap.size); obtain ⟨y_w6_0_1, c_w6_0_1, f_w6_0_1, r_w6_0_1, t_w6_0_1, p_w6_0_1⟩ := bq hb6 (w.heap.size + 1); obtain ⟨y_w6_0_2, c_w6_0_2, f_w6_0_2, r_w6_0_2, t_w6_0_2, p_w6_0_2⟩ := bq hb6 (w.heap.size + 1 + 1); obtain ⟨y_w6_1_0, c_w6_1_0, f_w6_1_0, r_w6_1_0, t_w6_1_0, p_w6_1_0⟩ := bq hb6 (w3.heap.size)
  clear AL
  go_wp2_with fail
  refine (KE.out _).mono ?_; rintro e w7 ⟨rfl, hb7⟩; have z_w7 := hb7.size; (try simp at z_w7); obtain ⟨y_w7_0_0, c_w7_0_0, f_w7_0_0, r_w7_0_0, t_w7_0_0, p_w7_0_0⟩ := bq hb7 (w.heap.size); obtain ⟨y_w7_0_1, c_w7_0_1, f_w7_0_1, r_w7_0_1, t_w7_0_1, p_w7_0_1⟩ := bq hb7 (w.heap.size + 1); obtain ⟨y_w7_0_2, c_w7_0_2, f_w7_0_2, r_w7_0_2, t_w7_0_2, p_w7_0_2⟩ := bq hb7 (w.heap.size + 1 + 1); obtain ⟨y_w7_1_0, c_w7_1_0, f_w7_1_0, r_w7_1_0, t_w7_1_0, p_w7_1_0⟩ := bq hb7 (w3.heap.size)
  by_cases l1 : hi' < lo'
  · have EV : Hid (ringE ⟨x, y, a, b, d⟩ ⟨x, y', a', b', d'⟩ lo hi = (⟨0, 0, 0, 0, 0, 0⟩, 3)) := by show _ = _; rw [EQ.out]; unfold ringEnd; rw [if_pos l1]
    go_wp2_with fail
    exact bodyPost_row_t 6 #[.int .i64 0, .int .i64 0, .int .i64 0, .int .i64 0, .int .i64 0, .int .i64 0] (.int .i64 3) rfl rfl rfl rfl Tryz.underlying39 rfl (by kernel_rfl) (row_of_cells 5 _ rfl (by intro i hi; rcases i with _ | _ | _ | _ | _ | _ | i; (go_simp); (go_simp); (go_simp); (go_simp); (go_simp); (go_simp); exact absurd hi (by omega))) ⟨by rw [EV.out], below_byR⟩
  · by_cases l2 : hi' = lo'
    · have EV : Hid (ringE ⟨x, y, a, b, d⟩ ⟨x, y', a', b', d'⟩ lo hi = (⟨x, y', 0, Y, lo', hi' + 1⟩, 0)) := by show _ = _; rw [EQ.out]; unfold ringEnd; rw [if_neg l1, if_pos l2]
      subst l2
      have l4 : wrap64 (hi' + 1) = hi' + 1 := by have := BD.out; unfold wrap64; omega
      have B7 : Blk w7 w3.heap.size #[.int .i64 x, .int .i64 y', .int .i64 0, .int .i64 Y, .int .i64 0, .int .i64 0] 39 := ((((Blk.new w3 _ _).keep hb4).keep hb5).keep hb6).keep hb7
      have c7 : (((w7.setCell ⟨w3.heap.size, 4, none⟩ (.int .i64 hi')).setCell ⟨w3.heap.size, 5, none⟩ (.int .i64 hi')).setCell ⟨w3.heap.size, 5, none⟩ (.int .i64 (hi' + 1))).cell? ⟨w3.heap.size, 5, none⟩ = some (.int .i64 (hi' + 1)) :=
        (((B7.setCell_same 4 _).setCell_same 5 _).setCell_same 5 _).cell rfl
      clear B7
      go_wp2_with fail
      exact bodyPost_row_t 6 #[.int .i64 x, .int .i64 y', .int .i64 0, .int .i64 Y, .int .i64 hi', .int .i64 (hi' + 1)] (.int .i64 0) rfl rfl rfl rfl Tryz.underlying39 rfl (by kernel_rfl) (row_of_cells 5 _ rfl (by intro i hi; rcases i with _ | _ | _ | _ | _ | _ | i; (go_simp); (go_simp); (go_simp); (go_simp); (go_simp); (go_simp); exact absurd hi (by omega))) ⟨by rw [EV.out], below_byR⟩
    · have EV : Hid (ringE ⟨x, y, a, b, d⟩ ⟨x, y', a', b', d'⟩ lo hi = (⟨x, y', 0, Y, lo', hi'⟩, 0)) := by show _ = _; rw [EQ.out]; unfold ringEnd; rw [if_neg l1, if_neg l2]
      have l3 : (hi' == lo') = false := by simp [l2]
      go_wp2_with fail
      exact bodyPost_row_t 6 #[.int .i64 x, .int .i64 y', .int .i64 0, .int .i64 Y, .int .i64 lo', .int .i64 hi'] (.int .i64 0) rfl rfl rfl rfl Tryz.underlying39 rfl (by kernel_rfl) (row_of_cells 5 _ rfl (by intro i hi; rcases i with _ | _ | _ | _ | _ | _ | i; (go_simp); (go_simp); (go_simp); (go_simp); (go_simp); (go_simp); exact absurd hi (by omega))) ⟨by rw [EV.out], below_byR⟩
end Go.Proofs.YtilginoibhfeiaaGreat
namespace Go.Proofs.YtilginoibhfeiaaGreat
open Go.RowKit

set_option maxRecDepth 100000 in
set_option maxHeartbeats 4000000 in
theorem ring_c (x y a b d x' y' a' b' d' lo hi : Int) (w : World) :
    Calls Tryz.prog 20 #[elC x y a b d, elC x' y' a' b' d', .int .i64 lo, .int .i64 hi] w fun e w' => e = .returned (.tuple #[stV (ringE ⟨x, y, a, b, d⟩ ⟨x', y', a', b', d'⟩ lo hi).1, .int .i64 (ringE ⟨x, y, a, b, d⟩ ⟨x', y', a', b', d'⟩ lo hi).2]) ∧ Below w.heap.size w w' := by
  rcases ring_cases ⟨x, y, a, b, d⟩ ⟨x', y', a', b', d'⟩ lo hi with h1 | ⟨h1, h2⟩ | ⟨h1, h2, h3⟩ | ⟨h1, h2, h3⟩
  · have EV := Lib.hid (ring_no _ ⟨x', y', a', b', d'⟩ lo hi (.inl h1))
    have H1 := Lib.hid h1
    clear h1
    go_enter Tryz.func20, Tryz.ntmps20
    go_wp2_with fail
    refine (ellmay_v _ _ _ _ _ _ H1.out _).mono ?_; rintro e w1 ⟨rfl, hb1⟩; have z_w1 := hb1.size; (try simp at z_w1); obtain ⟨y_w1_0_0, c_w1_0_0, f_w1_0_0, r_w1_0_0, t_w1_0_0, p_w1_0_0⟩ := bq hb1 (w.heap.size); obtain ⟨y_w1_0_1, c_w1_0_1, f_w1_0_1, r_w1_0_1, t_w1_0_1, p_w1_0_1⟩ := bq hb1 (w.heap.size + 1); obtain ⟨y_w1_0_2, c_w1_0_2, f_w1_0_2, r_w1_0_2, t_w1_0_2, p_w1_0_2⟩ := bq hb1 (w.heap.size + 1 + 1)
    go_wp2_with fail
    exact bodyPost_row_t 6 #[.int .i64 0, .int .i64 0, .int .i64 0, .int .i64 0, .int .i64 0, .int .i64 0] (.int .i64 1) rfl rfl rfl rfl Tryz.underlying39 rfl (by kernel_rfl) (row_of_cells 5 _ rfl (by intro i hi; rcases i with _ | _ | _ | _ | _ | _ | i; (go_simp); (go_simp); (go_simp); (go_simp); (go_simp); (go_simp); exact absurd hi (by omega))) ⟨by rw [EV.out], below_byR⟩
  · have EV := Lib.hid (ring_no ⟨x, y, a, b, d⟩ _ lo hi (.inr (.inl h2)))
    have H1 := Lib.hid h1
    have H2 := Lib.hid h2
    clear h1 h2
    go_enter Tryz.func20, Tryz.ntmps20
    go_wp2_with fail
    refine (ellmay_v _ _ _ _ _ _ H1.out _).mono ?_; rintro e w1 ⟨rfl, hb1⟩; have z_w1 := hb1.size; (try simp at z_w1); obtain ⟨y_w1_0_0, c_w1_0_0, f_w1_0_0, r_w1_0_0, t_w1_0_0, p_w1_0_0⟩ := bq hb1 (w.heap.size); obtain ⟨y_w1_0_1, c_w1_0_1, f_w1_0_1, r_w1_0_1, t_w1_0_1, p_w1_0_1⟩ := bq hb1 (w.heap.size + 1); obtain ⟨y_w1_0_2, c_w1_0_2, f_w1_0_2, r_w1_0_2, t_w1_0_2, p_w1_0_2⟩ := bq hb1 (w.heap.size + 1 + 1)
    go_wp2_with fail
    refine (ellmay_v _ _ _ _ _ _ H2.out _).mono ?_; rintro e w2 ⟨rfl, hb2⟩; have z_w2 := hb2.size; (try simp at z_w2); obtain ⟨y_w2_0_0, c_w2_0_0, f_w2_0_0, r_w2_0_0, t_w2_0_0, p_w2_0_0⟩ := bq hb2 (w.heap.size); obtain ⟨y_w2_0_1, c_w2_0_1, f_w2_0_1, r_w2_0_1, t_w2_0_1, p_w2_0_1⟩ := bq hb2 (w.heap.size + 1); obtain ⟨y_w2_0_2, c_w2_0_2, f_w2_0_2, r_w2_0_2, t_w2_0_2, p_w2_0_2⟩ := bq hb2 (w.heap.size + 1 + 1)
    go_wp2_with fail
    exact bodyPost_row_t 6 #[.int .i64 0, .int .i64 0, .int .i64 0, .int .i64 0, .int .i64 0, .int .i64 0] (.int .i64 1) rfl rfl rfl rfl Tryz.underlying39 rfl (by kernel_rfl) (row_of_cells 5 _ rfl (by intro i hi; rcases i with _ | _ | _ | _ | _ | _ | i; (go_simp); (go_simp); (go_simp); (go_simp); (go_simp); (go_simp); exact absurd hi (by omega))) ⟨by rw [EV.out], below_byR⟩
  · have EV := Lib.hid (ring_no ⟨x, y, a, b, d⟩ ⟨x', y', a', b', d'⟩ lo hi (.inr (.inr h3)))
    have H1 := Lib.hid h1
    have H2 := Lib.hid h2
    have H3 := Lib.hid h3
    clear h1 h2 h3
    go_enter Tryz.func20, Tryz.ntmps20
    go_wp2_with fail
    refine (ellmay_v _ _ _ _ _ _ H1.out _).mono ?_; rintro e w1 ⟨rfl, hb1⟩; have z_w1 := hb1.size; (try simp at z_w1); obtain ⟨y_w1_0_0, c_w1_0_0, f_w1_0_0, r_w1_0_0, t_w1_0_0, p_w1_0_0⟩ := bq hb1 (w.heap.size); obtain ⟨y_w1_0_1, c_w1_0_1, f_w1_0_1, r_w1_0_1, t_w1_0_1, p_w1_0_1⟩ := bq hb1 (w.heap.size + 1); obtain ⟨y_w1_0_2, c_w1_0_2, f_w1_0_2, r_w1_0_2, t_w1_0_2, p_w1_0_2⟩ := bq hb1 (w.heap.size + 1 + 1)
    go_wp2_with fail
    refine (ellmay_v _ _ _ _ _ _ H2.out _).mono ?_; rintro e w2 ⟨rfl, hb2⟩; have z_w2 := hb2.size; (try simp at z_w2); obtain ⟨y_w2_0_0, c_w2_0_0, f_w2_0_0, r_w2_0_0, t_w2_0_0, p_w2_0_0⟩ := bq hb2 (w.heap.size); obtain ⟨y_w2_0_1, c_w2_0_1, f_w2_0_1, r_w2_0_1, t_w2_0_1, p_w2_0_1⟩ := bq hb2 (w.heap.size + 1); obtain ⟨y_w2_0_2, c_w2_0_2, f_w2_0_2, r_w2_0_2, t_w2_0_2, p_w2_0_2⟩ := bq hb2 (w.heap.size + 1 + 1)
    go_wp2_with fail
    refine (smay_v _ _ _ H3.out _).mono ?_; rintro e w3 ⟨rfl, hb3⟩; have z_w3 := hb3.size; (try simp at z_w3); obtain ⟨y_w3_0_0, c_w3_0_0, f_w3_0_0, r_w3_0_0, t_w3_0_0, p_w3_0_0⟩ := bq hb3 (w.heap.size); obtain ⟨y_w3_0_1, c_w3_0_1, f_w3_0_1, r_w3_0_1, t_w3_0_1, p_w3_0_1⟩ := bq hb3 (w.heap.size + 1); obtain ⟨y_w3_0_2, c_w3_0_2, f_w3_0_2, r_w3_0_2, t_w3_0_2, p_w3_0_2⟩ := bq hb3 (w.heap.size + 1 + 1)
    go_wp2_with fail
    exact bodyPost_row_t 6 #[.int .i64 0, .int .i64 0, .int .i64 0, .int .i64 0, .int .i64 0, .int .i64 0] (.int .i64 1) rfl rfl rfl rfl Tryz.underlying39 rfl (by kernel_rfl) (row_of_cells 5 _ rfl (by intro i hi; rcases i with _ | _ | _ | _ | _ | _ | i; (go_simp); (go_simp); (go_simp); (go_simp); (go_simp); (go_simp); exact absurd hi (by omega))) ⟨by rw [EV.out], below_byR⟩
  · by_cases hx : x - x' = 0
    · obtain rfl : x = x' := by omega
      by_cases hy : y - y' = 0
      · obtain rfl : y = y' := by omega
        have EV : Hid (ringE ⟨x, y, a, b, d⟩ ⟨x, y, a', b', d'⟩ lo hi = (⟨0, 0, 0, 0, 0, 0⟩, 7)) := by show _ = _; unfold ringE; rw [if_pos ⟨h1, h2, h3⟩, if_pos (by simp)]
        have H1 := Lib.hid h1
        have H2 := Lib.hid h2
        have H3 := Lib.hid h3
        clear h1 h2 h3 hx hy
        go_enter Tryz.func20, Tryz.ntmps20
        go_wp2_with fail
        refine (ellmay_v _ _ _ _ _ _ H1.out _).mono ?_; rintro e w1 ⟨rfl, hb1⟩; have z_w1 := hb1.size; (try simp at z_w1); obtain ⟨y_w1_0_0, c_w1_0_0, f_w1_0_0, r_w1_0_0, t_w1_0_0, p_w1_0_0⟩ := bq hb1 (w.heap.size); obtain ⟨y_w1_0_1, c_w1_0_1, f_w1_0_1, r_w1_0_1, t_w1_0_1, p_w1_0_1⟩ := bq hb1 (w.heap.size + 1); obtain ⟨y_w1_0_2, c_w1_0_2, f_w1_0_2, r_w1_0_2, t_w1_0_2, p_w1_0_2⟩ := bq hb1 (w.heap.size + 1 + 1)
        go_wp2_with fail
        refine (ellmay_v _ _ _ _ _ _ H2.out _).mono ?_; rintro e w2 ⟨rfl, hb2⟩; have z_w2 := hb2.size; (try simp at z_w2); obtain ⟨y_w2_0_0, c_w2_0_0, f_w2_0_0, r_w2_0_0, t_w2_0_0, p_w2_0_0⟩ := bq hb2 (w.heap.size); obtain ⟨y_w2_0_1, c_w2_0_1, f_w2_0_1, r_w2_0_1, t_w2_0_1, p_w2_0_1⟩ := bq hb2 (w.heap.size + 1); obtain ⟨y_w2_0_2, c_w2_0_2, f_w2_0_2, r_w2_0_2, t_w2_0_2, p_w2_0_2⟩ := bq hb2 (w.heap.size + 1 + 1)
        go_wp2_with fail
        refine (smay_v _ _ _ H3.out _).mono ?_; rintro e w3 ⟨rfl, hb3⟩; have z_w3 := hb3.size; (try simp at z_w3); obtain ⟨y_w3_0_0, c_w3_0_0, f_w3_0_0, r_w3_0_0, t_w3_0_0, p_w3_0_0⟩ := bq hb3 (w.heap.size); obtain ⟨y_w3_0_1, c_w3_0_1, f_w3_0_1, r_w3_0_1, t_w3_0_1, p_w3_0_1⟩ := bq hb3 (w.heap.size + 1); obtain ⟨y_w3_0_2, c_w3_0_2, f_w3_0_2, r_w3_0_2, t_w3_0_2, p_w3_0_2⟩ := bq hb3 (w.heap.size + 1 + 1)
        have wz : wrap64 0 = 0 := by unfold wrap64; omega
        go_wp2_with fail
        exact bodyPost_row_t 6 #[.int .i64 0, .int .i64 0, .int .i64 0, .int .i64 0, .int .i64 0, .int .i64 0] (.int .i64 7) rfl rfl rfl rfl Tryz.underlying39 rfl (by kernel_rfl) (row_of_cells 5 _ rfl (by intro i hi; rcases i with _ | _ | _ | _ | _ | _ | i; (go_simp); (go_simp); (go_simp); (go_simp); (go_simp); (go_simp); exact absurd hi (by omega))) ⟨by rw [EV.out], below_byR⟩
      · exact ring_mainY x y a b d y' a' b' d' lo hi h1 h2 h3 hy w
    · exact ring_mainX x y a b d x' y' a' b' d' lo hi h1 h2 h3 hx w
theorem ring_v (x y a b d x' y' a' b' d' lo hi s1 s2 s3 s4 s5 s6 k : Int) (h : ringE ⟨x, y, a, b, d⟩ ⟨x', y', a', b', d'⟩ lo hi = (⟨s1, s2, s3, s4, s5, s6⟩, k)) (w : World) :
    Calls Tryz.prog 20 #[elC x y a b d, elC x' y' a' b' d', .int .i64 lo, .int .i64 hi] w fun e w' => e = .returned (.tuple #[stC s1 s2 s3 s4 s5 s6, .int .i64 k]) ∧ Below w.heap.size w w' := by
  have := ring_c x y a b d x' y' a' b' d' lo hi w
  rw [h] at this; exact this
def acqE (n : El) (hi : Int) : El × Int := if n.may = true ∧ 0 ≤ hi ∧ hi ≤ 4194304 then (if 4194304 < hi + n.rad then (El.zero, 2) else ballE n.x n.y (max 1 (hi + n.rad))) else (El.zero, 1)
set_option maxRecDepth 100000 in
set_option maxHeartbeats 4000000 in
theorem acq_c (x y a b d hi : Int) (w : World) :
    Calls Tryz.prog 22 #[elC x y a b d, .int .i64 hi] w fun e w' => e = .returned (.tuple #[elV (acqE ⟨x, y, a, b, d⟩ hi).1, .int .i64 (acqE ⟨x, y, a, b, d⟩ hi).2]) ∧ Below w.heap.size w w' := by
  cases hm : El.may ⟨x, y, a, b, d⟩ with
  | false =>
    have HM := Lib.hid hm
    have EV : Hid (acqE ⟨x, y, a, b, d⟩ hi = (El.zero, 1)) := by show _ = _; unfold acqE; rw [if_neg (by rw [hm]; simp)]
    clear hm
    go_enter Tryz.func22, Tryz.ntmps22
    go_wp2_with fail
    refine (ellmay_v _ _ _ _ _ _ HM.out _).mono ?_; rintro e w1 ⟨rfl, hb1⟩; have z_w1 := hb1.size; (try simp at z_w1); obtain ⟨y_w1_0_0, c_w1_0_0, f_w1_0_0, r_w1_0_0, t_w1_0_0, p_w1_0_0⟩ := bq hb1 (w.heap.size); obtain ⟨y_w1_0_1, c_w1_0_1, f_w1_0_1, r_w1_0_1, t_w1_0_1, p_w1_0_1⟩ := bq hb1 (w.heap.size + 1)
    go_wp2_with fail
    exact bodyPost_row_t 5 #[.int .i64 0, .int .i64 0, .int .i64 0, .int .i64 0, .int .i64 0] (.int .i64 1) rfl rfl rfl rfl Tryz.underlying27 rfl (by kernel_rfl) (row_of_cells 4 _ rfl (by intro i hi; rcases i with _ | _ | _ | _ | _ | i; (go_simp); (go_simp); (go_simp); (go_simp); (go_simp); exact absurd hi (by omega))) ⟨by rw [EV.out]; rfl, below_byR⟩
  | true =>
    have HM := Lib.hid hm
    by_cases h1 : hi < 0
    · have EV : Hid (acqE ⟨x, y, a, b, d⟩ hi = (El.zero, 1)) := by show _ = _; unfold acqE; rw [if_neg (by omega)]
      clear hm
      go_enter Tryz.func22, Tryz.ntmps22
      go_wp2_with fail
      refine (ellmay_v _ _ _ _ _ _ HM.out _).mono ?_; rintro e w1 ⟨rfl, hb1⟩; have z_w1 := hb1.size; (try simp at z_w1); obtain ⟨y_w1_0_0, c_w1_0_0, f_w1_0_0, r_w1_0_0, t_w1_0_0, p_w1_0_0⟩ := bq hb1 (w.heap.size); obtain ⟨y_w1_0_1, c_w1_0_1, f_w1_0_1, r_w1_0_1, t_w1_0_1, p_w1_0_1⟩ := bq hb1 (w.heap.size + 1)
      go_wp2_with fail
      exact bodyPost_row_t 5 #[.int .i64 0, .int .i64 0, .int .i64 0, .int .i64 0, .int .i64 0] (.int .i64 1) rfl rfl rfl rfl Tryz.underlying27 rfl (by kernel_rfl) (row_of_cells 4 _ rfl (by intro i hi; rcases i with _ | _ | _ | _ | _ | i; (go_simp); (go_simp); (go_simp); (go_simp); (go_simp); exact absurd hi (by omega))) ⟨by rw [EV.out]; rfl, below_byR⟩
    · by_cases h2 : 4194304 < hi
      · have EV : Hid (acqE ⟨x, y, a, b, d⟩ hi = (El.zero, 1)) := by show _ = _; unfold acqE; rw [if_neg (by omega)]
        clear hm
        go_enter Tryz.func22, Tryz.ntmps22
        go_wp2_with fail
        refine (ellmay_v _ _ _ _ _ _ HM.out _).mono ?_; rintro e w1 ⟨rfl, hb1⟩; have z_w1 := hb1.size; (try simp at z_w1); obtain ⟨y_w1_0_0, c_w1_0_0, f_w1_0_0, r_w1_0_0, t_w1_0_0, p_w1_0_0⟩ := bq hb1 (w.heap.size); obtain ⟨y_w1_0_1, c_w1_0_1, f_w1_0_1, r_w1_0_1, t_w1_0_1, p_w1_0_1⟩ := bq hb1 (w.heap.size + 1)
        go_wp2_with fail
        exact bodyPost_row_t 5 #[.int .i64 0, .int .i64 0, .int .i64 0, .int .i64 0, .int .i64 0] (.int .i64 1) rfl rfl rfl rfl Tryz.underlying27 rfl (by kernel_rfl) (row_of_cells 4 _ rfl (by intro i hi; rcases i with _ | _ | _ | _ | _ | i; (go_simp); (go_simp); (go_simp); (go_simp); (go_simp); exact absurd hi (by omega))) ⟨by rw [EV.out]; rfl, below_byR⟩
      · have rl := El.rad_le ⟨x, y, a, b, d⟩
        have r0 := rad_nat ⟨x, y, a, b, d⟩
        obtain ⟨R, hR⟩ : ∃ R, El.rad ⟨x, y, a, b, d⟩ = R := ⟨_, rfl⟩
        rw [hR] at rl r0
        obtain ⟨far, hf⟩ : ∃ f, hi + R = f := ⟨_, rfl⟩
        have wr : wrap64 (hi + R) = far := by rw [hf]; unfold wrap64; omega
        have ER := Lib.hid hR
        have EV0 : acqE ⟨x, y, a, b, d⟩ hi = if 4194304 < far then (El.zero, 2) else ballE x y (max 1 far) := by unfold acqE; rw [if_pos ⟨hm, by omega, by omega⟩, hR, hf]
        by_cases h3 : 4194304 < far
        · have EV : Hid (acqE ⟨x, y, a, b, d⟩ hi = (El.zero, 2)) := by show _ = _; rw [EV0, if_pos h3]
          clear hm hR EV0 hf rl r0
          go_enter Tryz.func22, Tryz.ntmps22
          go_wp2_with fail
          refine (ellmay_v _ _ _ _ _ _ HM.out _).mono ?_; rintro e w1 ⟨rfl, hb1⟩; have z_w1 := hb1.size; (try simp at z_w1); obtain ⟨y_w1_0_0, c_w1_0_0, f_w1_0_0, r_w1_0_0, t_w1_0_0, p_w1_0_0⟩ := bq hb1 (w.heap.size); obtain ⟨y_w1_0_1, c_w1_0_1, f_w1_0_1, r_w1_0_1, t_w1_0_1, p_w1_0_1⟩ := bq hb1 (w.heap.size + 1)
          go_wp2_with fail
          refine (rad_v _ _ _ _ _ _ ER.out _).mono ?_; rintro e w2 ⟨rfl, hb2⟩; have z_w2 := hb2.size; (try simp at z_w2); obtain ⟨y_w2_0_0, c_w2_0_0, f_w2_0_0, r_w2_0_0, t_w2_0_0, p_w2_0_0⟩ := bq hb2 (w.heap.size); obtain ⟨y_w2_0_1, c_w2_0_1, f_w2_0_1, r_w2_0_1, t_w2_0_1, p_w2_0_1⟩ := bq hb2 (w.heap.size + 1)
          go_wp2_with fail
          exact bodyPost_row_t 5 #[.int .i64 0, .int .i64 0, .int .i64 0, .int .i64 0, .int .i64 0] (.int .i64 2) rfl rfl rfl rfl Tryz.underlying27 rfl (by kernel_rfl) (row_of_cells 4 _ rfl (by intro i hi; rcases i with _ | _ | _ | _ | _ | i; (go_simp); (go_simp); (go_simp); (go_simp); (go_simp); exact absurd hi (by omega))) ⟨by rw [EV.out]; rfl, below_byR⟩
        · obtain ⟨⟨bx, bY, ba, bb, bd⟩, kb, hb⟩ : ∃ o k, ballE x y (max 1 far) = (o, k) := ⟨_, _, rfl⟩
          have EV : Hid (acqE ⟨x, y, a, b, d⟩ hi = (⟨bx, bY, ba, bb, bd⟩, kb)) := by show _ = _; rw [EV0, if_neg h3, hb]
          have EB := Lib.hid hb
          clear hm hR EV0 hf rl r0 hb
          go_enter Tryz.func22, Tryz.ntmps22
          go_wp2_with fail
          refine (ellmay_v _ _ _ _ _ _ HM.out _).mono ?_; rintro e w1 ⟨rfl, hb1⟩; have z_w1 := hb1.size; (try simp at z_w1); obtain ⟨y_w1_0_0, c_w1_0_0, f_w1_0_0, r_w1_0_0, t_w1_0_0, p_w1_0_0⟩ := bq hb1 (w.heap.size); obtain ⟨y_w1_0_1, c_w1_0_1, f_w1_0_1, r_w1_0_1, t_w1_0_1, p_w1_0_1⟩ := bq hb1 (w.heap.size + 1)
          go_wp2_with fail
          refine (rad_v _ _ _ _ _ _ ER.out _).mono ?_; rintro e w2 ⟨rfl, hb2⟩; have z_w2 := hb2.size; (try simp at z_w2); obtain ⟨y_w2_0_0, c_w2_0_0, f_w2_0_0, r_w2_0_0, t_w2_0_0, p_w2_0_0⟩ := bq hb2 (w.heap.size); obtain ⟨y_w2_0_1, c_w2_0_1, f_w2_0_1, r_w2_0_1, t_w2_0_1, p_w2_0_1⟩ := bq hb2 (w.heap.size + 1)
          go_wp2_with fail
          refine (ellball_v _ _ _ _ _ _ _ _ _ EB.out _).mono ?_; rintro e w3 ⟨rfl, hb3⟩; have z_w3 := hb3.size; (try simp at z_w3); obtain ⟨y_w3_0_0, c_w3_0_0, f_w3_0_0, r_w3_0_0, t_w3_0_0, p_w3_0_0⟩ := bq hb3 (w.heap.size); obtain ⟨y_w3_0_1, c_w3_0_1, f_w3_0_1, r_w3_0_1, t_w3_0_1, p_w3_0_1⟩ := bq hb3 (w.heap.size + 1)
          go_wp2_with fail
          exact bodyPost_row_t 5 #[.int .i64 bx, .int .i64 bY, .int .i64 ba, .int .i64 bb, .int .i64 bd] (.int .i64 kb) rfl rfl rfl rfl Tryz.underlying27 rfl (by kernel_rfl) (row_of_cells 4 _ rfl (by intro i hi; rcases i with _ | _ | _ | _ | _ | i; (go_simp); (go_simp); (go_simp); (go_simp); (go_simp); exact absurd hi (by omega))) ⟨by rw [EV.out], below_byR⟩
theorem acq_v (x y a b d hi x' y' a' b' d' k : Int) (h : acqE ⟨x, y, a, b, d⟩ hi = (⟨x', y', a', b', d'⟩, k)) (w : World) :
    Calls Tryz.prog 22 #[elC x y a b d, .int .i64 hi] w fun e w' => e = .returned (.tuple #[elC x' y' a' b' d', .int .i64 k]) ∧ Below w.heap.size w w' := by
  have := acq_c x y a b d hi w
  rw [h] at this; exact this
end Go.Proofs.YtilginoibhfeiaaGreat
