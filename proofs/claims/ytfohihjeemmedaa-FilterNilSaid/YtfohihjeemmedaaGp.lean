/- The plain law of sums and growth of ellipses. No program in sight. -/
import Derived.Test.YtfohihjeemmedaaLq
import Derived.Test.YtfohihjeemmedaaTp
namespace Go.Proofs.Ytfohihjeemmedaa

theorem psd_of_form (a b d : Int) (h : ∀ x y, 0 ≤ form a b d x y) : psdB a b d = true := by
  cases hp : psdB a b d with
  | true => rfl
  | false => exact absurd (not_psd a b d hp (h _ _) (h _ _) (h _ _) (h _ _) (h _ _) (h _ _)) (fun h => h)
/-- A point held: along every direction. -/
theorem holds_form (a b d x y : Int) : holdsB a b d x y = true ↔ ∀ h k, (x * h + y * k) * (x * h + y * k) ≤ form a b d h k := by
  have e : ∀ h k, form (a - x * x) (b - x * y) (d - y * y) h k = form a b d h k - (x * h + y * k) * (x * h + y * k) := by
    intro h k; unfold form; grind
  constructor
  · intro hh h k
    have := psd_form _ _ _ h k hh
    rw [e] at this; omega
  · intro hh
    refine psd_of_form _ _ _ fun h k => ?_
    rw [e]; have := hh h k; omega
/-- One part of a sum: what rounding takes away is made good. -/
theorem part_form (s r a b d A B D h k : Int) (hA : r * a ≤ s * A) (hD : r * d ≤ s * D) (hB1 : s * B ≤ r * b) (hB2 : r * b < s * B + s) :
    r * form a b d h k ≤ s * form (A + 1) B (D + 1) h k := by
  obtain ⟨al, hal⟩ : ∃ al, s * A = r * a + al := ⟨s * A - r * a, by omega⟩
  obtain ⟨de, hde⟩ : ∃ de, s * D = r * d + de := ⟨s * D - r * d, by omega⟩
  obtain ⟨be, hbe⟩ : ∃ be, s * B = r * b - be := ⟨r * b - s * B, by omega⟩
  have e : s * form (A + 1) B (D + 1) h k = r * form a b d h k + (al * (h * h) + de * (k * k) + ((s - be) * (h * h + k * k) + be * ((h - k) * (h - k)))) := by
    unfold form
    have e1 : s * ((A + 1) * (h * h) + (D + 1) * (k * k) + (B * (h * k) + B * (h * k))) = (s * A) * (h * h) + s * (h * h) + (s * D) * (k * k) + s * (k * k) + 2 * ((s * B) * (h * k)) := by grind
    rw [e1, hal, hde, hbe]; grind
  have p1 := Int.mul_nonneg (show 0 ≤ al by omega) (int_sq_nonneg h)
  have p2 := Int.mul_nonneg (show 0 ≤ de by omega) (int_sq_nonneg k)
  have p3 := Int.mul_nonneg (show 0 ≤ s - be by omega) (show 0 ≤ h * h + k * k by have := int_sq_nonneg h; have := int_sq_nonneg k; omega)
  have p4 := Int.mul_nonneg (show 0 ≤ be by omega) (int_sq_nonneg (h - k))
  omega
theorem form_add (a b d a' b' d' h k : Int) : form (a + a') (b + b') (d + d') h k = form a b d h k + form a' b' d' h k := by unfold form; grind
/-- The sum of two: along a direction, scaled. -/
theorem sum_dir (s t f f' g g' u v K : Int) (hs : 0 < s) (ht : 0 < t) (h1 : (s + t) * f ≤ s * g) (h2 : (s + t) * f' ≤ t * g') (hK : 0 ≤ K) (hu : u * u ≤ K * f) (hv : v * v ≤ K * f') :
    (u + v) * (u + v) ≤ K * (g + g') := by
  have hst : 0 < s * t := Int.mul_pos hs ht
  have hr : 0 < s + t := by omega
  have k1 : t * (u * u) + s * (v * v) ≤ K * (t * f + s * f') := by
    have a1 := Int.mul_le_mul_of_nonneg_left hu (show 0 ≤ t by omega)
    have a2 := Int.mul_le_mul_of_nonneg_left hv (show 0 ≤ s by omega)
    have e : K * (t * f + s * f') = t * (K * f) + s * (K * f') := by grind
    omega
  have k2 : (s + t) * (t * f + s * f') ≤ s * t * (g + g') := by
    have a1 := Int.mul_le_mul_of_nonneg_left h1 (show 0 ≤ t by omega)
    have a2 := Int.mul_le_mul_of_nonneg_left h2 (show 0 ≤ s by omega)
    have e1 : (s + t) * (t * f + s * f') = t * ((s + t) * f) + s * ((s + t) * f') := by grind
    have e2 : s * t * (g + g') = t * (s * g) + s * (t * g') := by grind
    omega
  have k3 : s * t * ((u + v) * (u + v)) + (t * u - s * v) * (t * u - s * v) = (s + t) * (t * (u * u) + s * (v * v)) := by grind
  have k4 := int_sq_nonneg (t * u - s * v)
  have k5 := Int.mul_le_mul_of_nonneg_left k1 (show 0 ≤ s + t by omega)
  have k6 := Int.mul_le_mul_of_nonneg_left k2 hK
  have e3 : (s + t) * (K * (t * f + s * f')) = K * ((s + t) * (t * f + s * f')) := by grind
  have e4 : K * (s * t * (g + g')) = s * t * (K * (g + g')) := by grind
  have k7 : s * t * ((u + v) * (u + v)) ≤ s * t * (K * (g + g')) := by omega
  exact Int.le_of_mul_le_mul_left k7 hst
/-! ### Quotients up and down -/
/-- A quotient, up. -/
def cdiv (x s : Int) : Int := -((-x).fdiv s)
theorem floor_spec (x s : Int) (hs : 0 < s) : s * x.fdiv s ≤ x ∧ x < s * x.fdiv s + s := by
  rw [Int.fdiv_eq_ediv_of_nonneg _ (by omega)]
  have h1 := Int.mul_ediv_add_emod x s
  have h2 := Int.emod_nonneg x (show s ≠ 0 by omega)
  have h3 := Int.emod_lt_of_pos x hs
  omega
theorem cdiv_spec (x s : Int) (hs : 0 < s) : x ≤ s * cdiv x s ∧ s * cdiv x s < x + s := by
  have h := floor_spec (-x) s hs
  unfold cdiv
  rw [Int.mul_neg]; omega
/-- An ellipse: its centre, its matrix. -/
structure El where
  x : Int
  y : Int
  a : Int
  b : Int
  d : Int
def El.zero : El := ⟨0, 0, 0, 0, 0⟩
def mayPt (x y : Int) : Bool := decide (-4194304 ≤ x ∧ x ≤ 4194304 ∧ -4194304 ≤ y ∧ y ≤ 4194304)
/-- An ellipse that may be. -/
def El.may (e : El) : Bool := mayPt e.x e.y && decide (1 ≤ e.a ∧ e.a ≤ 70368744177664 ∧ 1 ≤ e.d ∧ e.d ≤ 70368744177664 ∧ -70368744177664 ≤ e.b ∧ e.b ≤ 70368744177664) && decide (0 < e.a * e.d - e.b * e.b)
theorem mayPt_iff (x y : Int) : mayPt x y = true ↔ -4194304 ≤ x ∧ x ≤ 4194304 ∧ -4194304 ≤ y ∧ y ≤ 4194304 := by unfold mayPt; simp
theorem El.may_iff (e : El) : e.may = true ↔ (-4194304 ≤ e.x ∧ e.x ≤ 4194304 ∧ -4194304 ≤ e.y ∧ e.y ≤ 4194304) ∧ (1 ≤ e.a ∧ e.a ≤ 70368744177664 ∧ 1 ≤ e.d ∧ e.d ≤ 70368744177664 ∧ -70368744177664 ≤ e.b ∧ e.b ≤ 70368744177664) ∧ 0 < e.a * e.d - e.b * e.b := by
  unfold El.may; rw [Bool.and_eq_true, Bool.and_eq_true, mayPt_iff, decide_eq_true_eq, decide_eq_true_eq, and_assoc]
/-- A point in an ellipse. -/
def El.has (e : El) (p q : Int) : Bool := e.may && decide (-1073741824 ≤ p ∧ p ≤ 1073741824 ∧ -1073741824 ≤ q ∧ q ≤ 1073741824) && holdsB e.a e.b e.d (p - e.x) (q - e.y)
theorem El.has_iff (e : El) (p q : Int) : e.has p q = true ↔ e.may = true ∧ (-1073741824 ≤ p ∧ p ≤ 1073741824 ∧ -1073741824 ≤ q ∧ q ≤ 1073741824) ∧ holdsB e.a e.b e.d (p - e.x) (q - e.y) = true := by
  unfold El.has; rw [Bool.and_eq_true, Bool.and_eq_true, decide_eq_true_eq, and_assoc]
def El.tr (e : El) : Int := if e.may = true then e.a + e.d else 0
def El.rad (e : El) : Int := (up e.tr.toNat : Nat)
/-- The sum of two. -/
def sumEl (e f : El) : El := ⟨e.x + f.x, e.y + f.y, cdiv ((e.rad + f.rad) * e.a) e.rad + cdiv ((e.rad + f.rad) * f.a) f.rad + 2, ((e.rad + f.rad) * e.b).fdiv e.rad + ((e.rad + f.rad) * f.b).fdiv f.rad, cdiv ((e.rad + f.rad) * e.d) e.rad + cdiv ((e.rad + f.rad) * f.d) f.rad + 2⟩
def sumE (e f : El) : El × Int := if e.may = true ∧ f.may = true then (if (sumEl e f).may = true then (sumEl e f, 0) else (El.zero, 2)) else (El.zero, 1)
def ballE (x y r : Int) : El × Int := if mayPt x y = true ∧ 1 ≤ r ∧ r ≤ 4194304 then (⟨x, y, r * r, 0, r * r⟩, 0) else (El.zero, 1)
def growE (e : El) (r : Int) : El × Int := if e.may = true ∧ 0 ≤ r ∧ r ≤ 4194304 then (if r = 0 then (e, 0) else sumE e (ballE 0 0 r).1) else (El.zero, 1)
def ageE (e : El) (v n : Int) : El × Int := if e.may = true ∧ 0 ≤ v ∧ 0 ≤ n then (if 0 < n ∧ (4194304 : Int).tdiv n < v then (El.zero, 2) else growE e (v * n)) else (El.zero, 1)

theorem El.rad_pos (e : El) (h : e.may = true) : 0 < e.rad := by
  have h1 := (El.may_iff e).1 h
  have h2 := up_spec e.tr.toNat
  have h3 : e.tr = e.a + e.d := by unfold El.tr; rw [if_pos h]
  unfold El.rad
  rcases Nat.eq_zero_or_pos (up e.tr.toNat) with h0 | h0
  · rw [h0] at h2; omega
  · omega
/-- The radius reaches as far as the ellipse does. -/
theorem El.rad_sq (e : El) (h : e.may = true) : e.a + e.d ≤ e.rad * e.rad := by
  have h1 := (El.may_iff e).1 h
  have h2 := (up_spec e.tr.toNat).1
  have h3 : e.tr = e.a + e.d := by unfold El.tr; rw [if_pos h]
  unfold El.rad
  rw [← Int.natCast_mul]
  omega
theorem El.rad_le (e : El) : e.rad ≤ 11863284 := by
  have h1 : e.tr ≤ 140737488355328 := by
    unfold El.tr; split
    · rename_i h; have := (El.may_iff e).1 h; omega
    · decide
  have := up_le e.tr.toNat 11863284 (by omega)
  unfold El.rad; omega
theorem form_sumEl (e f : El) (h k : Int) : form (sumEl e f).a (sumEl e f).b (sumEl e f).d h k =
    form (cdiv ((e.rad + f.rad) * e.a) e.rad + 1) (((e.rad + f.rad) * e.b).fdiv e.rad) (cdiv ((e.rad + f.rad) * e.d) e.rad + 1) h k + form (cdiv ((e.rad + f.rad) * f.a) f.rad + 1) (((e.rad + f.rad) * f.b).fdiv f.rad) (cdiv ((e.rad + f.rad) * f.d) f.rad + 1) h k := by
  rw [← form_add]; unfold sumEl; simp only
  congr 1 <;> omega
theorem sumEl_parts (e f : El) (he : e.may = true) (hf : f.may = true) (h k : Int) :
    (e.rad + f.rad) * form e.a e.b e.d h k ≤ e.rad * form (cdiv ((e.rad + f.rad) * e.a) e.rad + 1) (((e.rad + f.rad) * e.b).fdiv e.rad) (cdiv ((e.rad + f.rad) * e.d) e.rad + 1) h k ∧
      (e.rad + f.rad) * form f.a f.b f.d h k ≤ f.rad * form (cdiv ((e.rad + f.rad) * f.a) f.rad + 1) (((e.rad + f.rad) * f.b).fdiv f.rad) (cdiv ((e.rad + f.rad) * f.d) f.rad + 1) h k := by
  have h1 := e.rad_pos he
  have h2 := f.rad_pos hf
  exact ⟨part_form _ _ _ _ _ _ _ _ _ _ (cdiv_spec _ _ h1).1 (cdiv_spec _ _ h1).1 (floor_spec _ _ h1).1 (floor_spec _ _ h1).2,
    part_form _ _ _ _ _ _ _ _ _ _ (cdiv_spec _ _ h2).1 (cdiv_spec _ _ h2).1 (floor_spec _ _ h2).1 (floor_spec _ _ h2).2⟩
/-- The sum's matrix, along every direction. -/
theorem sumEl_dir (e f : El) (he : e.may = true) (hf : f.may = true) (h k u v K : Int) (hK : 0 ≤ K) (hu : u * u ≤ K * form e.a e.b e.d h k) (hv : v * v ≤ K * form f.a f.b f.d h k) :
    (u + v) * (u + v) ≤ K * form (sumEl e f).a (sumEl e f).b (sumEl e f).d h k := by
  rw [form_sumEl]
  have hp := sumEl_parts e f he hf h k
  exact sum_dir _ _ _ _ _ _ u v K (e.rad_pos he) (f.rad_pos hf) hp.1 hp.2 hK hu hv
theorem sumE_ok {e f o : El} (h : sumE e f = (o, 0)) : e.may = true ∧ f.may = true ∧ o = sumEl e f ∧ o.may = true := by
  unfold sumE at h
  split at h
  · rename_i h1
    split at h
    · rename_i h2; injection h with h3 h4; subst h3; exact ⟨h1.1, h1.2, rfl, h2⟩
    · injection h with h3 h4; cases h4
  · injection h with h3 h4; cases h4
/-- How far a point of an ellipse is from its centre. -/
theorem El.near (e : El) (p q : Int) (h : e.has p q = true) : -8388608 ≤ p - e.x ∧ p - e.x ≤ 8388608 ∧ -8388608 ≤ q - e.y ∧ q - e.y ≤ 8388608 := by
  obtain ⟨hm, _, hh⟩ := (El.has_iff e p q).1 h
  have h1 := (El.may_iff e).1 hm
  unfold holdsB at hh
  rw [psdB_iff] at hh
  have key : ∀ z a : Int, 0 ≤ a - z * z → a ≤ 70368744177664 → -8388608 ≤ z ∧ z ≤ 8388608 := by
    intro z a h2 h3
    constructor
    · rcases Int.lt_or_le z (-8388608) with h4 | h4
      · have : (-z) * (-z) ≥ 8388609 * 8388609 := Int.mul_le_mul (by omega) (by omega) (by decide) (by omega)
        rw [Int.neg_mul_neg] at this; omega
      · exact h4
    · rcases Int.lt_or_le 8388608 z with h4 | h4
      · have : z * z ≥ 8388609 * 8388609 := Int.mul_le_mul (by omega) (by omega) (by decide) (by omega)
        omega
      · exact h4
  have k1 := key _ _ hh.1 h1.2.1.2.1
  have k2 := key _ _ hh.2.1 h1.2.1.2.2.2.1
  omega
theorem El.has_dir (e : El) (p q : Int) (h : e.has p q = true) (i j : Int) : ((p - e.x) * i + (q - e.y) * j) * ((p - e.x) * i + (q - e.y) * j) ≤ form e.a e.b e.d i j :=
  (holds_form _ _ _ _ _).1 ((El.has_iff e p q).1 h).2.2 i j
/-- The sum holds all sums. -/
theorem sum_holds {e f o : El} (h : sumE e f = (o, 0)) (p q p' q' : Int) (h1 : e.has p q = true) (h2 : f.has p' q' = true) : o.has (p + p') (q + q') = true := by
  obtain ⟨he, hf, rfl, ho⟩ := sumE_ok h
  have n1 := e.near p q h1
  have n2 := f.near p' q' h2
  have m1 := (El.may_iff e).1 he
  have m2 := (El.may_iff f).1 hf
  refine (El.has_iff _ _ _).2 ⟨ho, by omega, (holds_form _ _ _ _ _).2 fun i j => ?_⟩
  have d1 := e.has_dir p q h1 i j
  have d2 := f.has_dir p' q' h2 i j
  have := sumEl_dir e f he hf i j ((p - e.x) * i + (q - e.y) * j) ((p' - f.x) * i + (q' - f.y) * j) 1 (by decide) (by omega) (by omega)
  have e1 : (p + p' - (sumEl e f).x) * i + (q + q' - (sumEl e f).y) * j = ((p - e.x) * i + (q - e.y) * j) + ((p' - f.x) * i + (q' - f.y) * j) := by
    show (p + p' - (e.x + f.x)) * i + (q + q' - (e.y + f.y)) * j = _; grind
  rw [e1]; omega
theorem sum_comm (e f : El) : sumE e f = sumE f e := by
  have h : sumEl e f = sumEl f e := by
    unfold sumEl
    have hr : e.rad + f.rad = f.rad + e.rad := Int.add_comm _ _
    rw [hr]
    congr 1 <;> omega
  unfold sumE; rw [h]
  simp only [and_comm]
theorem cdiv_ge (r a s : Int) (hs : 0 < s) (hr : s ≤ r) (ha : 0 ≤ a) : a ≤ cdiv (r * a) s := by
  have h1 := (cdiv_spec (r * a) s hs).1
  have h2 : s * a ≤ r * a := Int.mul_le_mul_of_nonneg_right hr ha
  exact Int.le_of_mul_le_mul_left (Int.le_trans h2 h1) hs
theorem sum_trace {e f o : El} (h : sumE e f = (o, 0)) : e.tr + f.tr + 4 ≤ o.tr := by
  obtain ⟨he, hf, rfl, ho⟩ := sumE_ok h
  have h1 := e.rad_pos he
  have h2 := f.rad_pos hf
  have m1 := (El.may_iff e).1 he
  have m2 := (El.may_iff f).1 hf
  unfold El.tr
  rw [if_pos he, if_pos hf, if_pos ho]
  have a1 := cdiv_ge (e.rad + f.rad) e.a e.rad h1 (by omega) (by omega)
  have a2 := cdiv_ge (e.rad + f.rad) e.d e.rad h1 (by omega) (by omega)
  have a3 := cdiv_ge (e.rad + f.rad) f.a f.rad h2 (by omega) (by omega)
  have a4 := cdiv_ge (e.rad + f.rad) f.d f.rad h2 (by omega) (by omega)
  show e.a + e.d + (f.a + f.d) + 4 ≤ (cdiv ((e.rad + f.rad) * e.a) e.rad + cdiv ((e.rad + f.rad) * f.a) f.rad + 2) + (cdiv ((e.rad + f.rad) * e.d) e.rad + cdiv ((e.rad + f.rad) * f.d) f.rad + 2)
  omega
theorem may_form (e : El) (h : e.may = true) (i j : Int) : 0 ≤ form e.a e.b e.d i j := by
  have m := (El.may_iff e).1 h
  exact psd_form _ _ _ _ _ ((psdB_iff _ _ _).2 ⟨by omega, by omega, by omega⟩)
/-- The sum's matrix is at least each one's. -/
theorem sum_least {e f o : El} (h : sumE e f = (o, 0)) : psdB (o.a - e.a) (o.b - e.b) (o.d - e.d) = true := by
  obtain ⟨he, hf, rfl, ho⟩ := sumE_ok h
  refine psd_of_form _ _ _ fun i j => ?_
  have e1 : form ((sumEl e f).a - e.a) ((sumEl e f).b - e.b) ((sumEl e f).d - e.d) i j = form (sumEl e f).a (sumEl e f).b (sumEl e f).d i j - form e.a e.b e.d i j := by unfold form; grind
  rw [e1, form_sumEl]
  have hp := sumEl_parts e f he hf i j
  have h1 := e.rad_pos he
  have h2 := f.rad_pos hf
  have f1 := may_form e he i j
  have f2 := may_form f hf i j
  have k1 : e.rad * form e.a e.b e.d i j ≤ (e.rad + f.rad) * form e.a e.b e.d i j := Int.mul_le_mul_of_nonneg_right (by omega) f1
  have k2 : f.rad * 0 ≤ (e.rad + f.rad) * form f.a f.b f.d i j := by rw [Int.mul_zero]; exact Int.mul_nonneg (by omega) f2
  have k3 := Int.le_of_mul_le_mul_left (Int.le_trans k1 hp.1) h1
  have k4 := Int.le_of_mul_le_mul_left (Int.le_trans k2 hp.2) h2
  omega
/-! ### Growth by a ball, with time -/
theorem sq_bound {z r : Int} (hr : 0 ≤ r) (h : z * z ≤ r * r) : -r ≤ z ∧ z ≤ r := by
  constructor
  · rcases Int.lt_or_le z (-r) with h1 | h1
    · have : (r + 1) * (r + 1) ≤ (-z) * (-z) := Int.mul_le_mul (by omega) (by omega) (by omega) (by omega)
      rw [Int.neg_mul_neg] at this
      have e : (r + 1) * (r + 1) = r * r + 2 * r + 1 := by grind
      omega
    · exact h1
  · rcases Int.lt_or_le r z with h1 | h1
    · have : (r + 1) * (r + 1) ≤ z * z := Int.mul_le_mul (by omega) (by omega) (by omega) (by omega)
      have e : (r + 1) * (r + 1) = r * r + 2 * r + 1 := by grind
      omega
    · exact h1
theorem ball_may (x y r : Int) (hp : mayPt x y = true) (h1 : 1 ≤ r) (h2 : r ≤ 4194304) : (⟨x, y, r * r, 0, r * r⟩ : El).may = true := by
  have p := (mayPt_iff x y).1 hp
  have k1 : 1 * 1 ≤ r * r := Int.mul_le_mul h1 h1 (by decide) (by omega)
  have k2 : r * r ≤ 4194304 * 4194304 := Int.mul_le_mul h2 h2 (by omega) (by decide)
  have k3 : 1 ≤ r * r ∧ r * r ≤ 70368744177664 ∧ 1 ≤ r * r ∧ r * r ≤ 70368744177664 ∧ (-70368744177664 : Int) ≤ 0 ∧ (0 : Int) ≤ 70368744177664 := ⟨by omega, by omega, by omega, by omega, by decide, by decide⟩
  refine (El.may_iff _).2 ⟨p, k3, ?_⟩
  have : 1 * 1 ≤ (r * r) * (r * r) := Int.mul_le_mul (by omega) (by omega) (by decide) (by omega)
  simp only [Int.mul_zero, Int.sub_zero]
  omega
theorem ball_holds (r u v : Int) (h : u * u + v * v ≤ r * r) : holdsB (r * r) 0 (r * r) u v = true := by
  have hu := int_sq_nonneg u
  have hv := int_sq_nonneg v
  have hr := int_sq_nonneg r
  refine (psdB_iff _ _ _).2 ⟨by omega, by omega, ?_⟩
  have e : (r * r - u * u) * (r * r - v * v) - (0 - u * v) * (0 - u * v) = (r * r) * (r * r - (u * u + v * v)) := by grind
  rw [e]; exact Int.mul_nonneg hr (by omega)
theorem ball_has (x y r u v : Int) (hp : mayPt x y = true) (h1 : 1 ≤ r) (h2 : r ≤ 4194304) (h : u * u + v * v ≤ r * r) : (⟨x, y, r * r, 0, r * r⟩ : El).has (x + u) (y + v) = true := by
  have p := (mayPt_iff x y).1 hp
  have hu := int_sq_nonneg u
  have hv := int_sq_nonneg v
  have b1 := sq_bound (show 0 ≤ r by omega) (show u * u ≤ r * r by omega)
  have b2 := sq_bound (show 0 ≤ r by omega) (show v * v ≤ r * r by omega)
  refine (El.has_iff _ _ _).2 ⟨ball_may x y r hp h1 h2, by omega, ?_⟩
  rw [show x + u - x = u by omega, show y + v - y = v by omega]
  exact ball_holds r u v h
theorem growE_ok {e g : El} {r : Int} (h : growE e r = (g, 0)) : e.may = true ∧ 0 ≤ r ∧ r ≤ 4194304 ∧ ((r = 0 ∧ g = e) ∨ (1 ≤ r ∧ sumE e ⟨0, 0, r * r, 0, r * r⟩ = (g, 0))) := by
  unfold growE at h
  split at h
  · rename_i h1
    refine ⟨h1.1, h1.2.1, h1.2.2, ?_⟩
    split at h
    · rename_i h2; injection h with h3 h4; exact .inl ⟨h2, h3.symm⟩
    · rename_i h2
      right
      refine ⟨by omega, ?_⟩
      have : ballE 0 0 r = (⟨0, 0, r * r, 0, r * r⟩, 0) := by
        unfold ballE; rw [if_pos ⟨by decide, by omega, h1.2.2⟩]
      rw [this] at h; exact h
  · injection h with h3 h4; cases h4
/-- Grown it holds what is so near. -/
theorem grow_holds {e g : El} {r : Int} (h : growE e r = (g, 0)) (p q u v : Int) (hp : e.has p q = true) (hu : u * u + v * v ≤ r * r) : g.has (p + u) (q + v) = true := by
  obtain ⟨_, h0, h1, ⟨rfl, rfl⟩ | ⟨h2, h3⟩⟩ := growE_ok h
  · have a := int_sq_nonneg u
    have b := int_sq_nonneg v
    have u0 : u = 0 := by
      have : u * u = 0 := by omega
      rcases Int.mul_eq_zero.1 this with h | h <;> exact h
    have v0 : v = 0 := by
      have : v * v = 0 := by omega
      rcases Int.mul_eq_zero.1 this with h | h <;> exact h
    subst u0; subst v0
    rw [Int.add_zero, Int.add_zero]; exact hp
  · have := ball_has 0 0 r u v (by decide) h2 h1 hu
    rw [Int.zero_add, Int.zero_add] at this
    exact sum_holds h3 p q u v hp this
theorem grow_more {e g : El} {r : Int} (h : growE e r = (g, 0)) (hr : r ≠ 0) : g.x = e.x ∧ g.y = e.y ∧ e.tr < g.tr ∧ g.may = true := by
  obtain ⟨he, h0, h1, ⟨h2, _⟩ | ⟨h2, h3⟩⟩ := growE_ok h
  · exact absurd h2 hr
  · obtain ⟨_, hb, ho, hm⟩ := sumE_ok h3
    have ht := sum_trace h3
    refine ⟨by rw [ho]; show e.x + 0 = e.x; omega, by rw [ho]; show e.y + 0 = e.y; omega, ?_, hm⟩
    have : 0 ≤ (⟨0, 0, r * r, 0, r * r⟩ : El).tr := by
      unfold El.tr; rw [if_pos hb]; have := int_sq_nonneg r; show 0 ≤ r * r + r * r; omega
    omega
theorem grow_centre {e g : El} {r : Int} (h : growE e r = (g, 0)) : g.x = e.x ∧ g.y = e.y ∧ g.may = true := by
  by_cases hr : r = 0
  · obtain ⟨he, _, _, ⟨_, rfl⟩ | ⟨h2, _⟩⟩ := growE_ok h
    · exact ⟨rfl, rfl, he⟩
    · omega
  · have := grow_more h hr; exact ⟨this.1, this.2.1, this.2.2.2⟩
theorem growE_zero (e : El) (h : e.may = true) : growE e 0 = (e, 0) := by unfold growE; rw [if_pos ⟨h, by decide, by decide⟩, if_pos rfl]
theorem ageE_ok {e g : El} {v n : Int} (h : ageE e v n = (g, 0)) : growE e (v * n) = (g, 0) ∧ 0 ≤ v ∧ 0 ≤ n := by
  unfold ageE at h
  split at h
  · rename_i h1
    split at h
    · injection h with h3 h4; cases h4
    · exact ⟨h, h1.2.1, h1.2.2⟩
  · injection h with h3 h4; cases h4
end Go.Proofs.Ytfohihjeemmedaa
