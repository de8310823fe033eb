/- The plain law of StripFar: distances that cannot be. No program in sight. -/
import Derived.Test.YtfohihjeemmedaaVB
namespace Go.Proofs.Ytfohihjeemmedaa

/-- Far from each other: nothing, at every weight that is not near an end. -/
theorem fuse_apart' (e f : El) (k : Int) (k1 : 9 ≤ k) (k2 : k ≤ 25) (he : e.may = true) (hf : f.may = true) (hx : e.x = 0) (r1 r2 : Int) (p1 : 0 ≤ r1) (p2 : 0 ≤ r2) (s1 : e.a ≤ r1 * r1) (s2 : f.a ≤ r2 * r2) (hD : 2 * (r1 + r2) < f.x) : (fuseE e f k).2 = 3 := by
  rw [fuseE_may e f k he hf (by omega) (by omega)]
  obtain ⟨hA, hd⟩ := mix_pos e f k he hf (by omega) (by omega)
  have m1 := (El.may_iff e).1 he
  have m2 := (El.may_iff f).1 hf
  have hl : (mixI (ofEl e) (ofEl f) k).lv < 0 := by
    rcases Int.lt_or_le (mixI (ofEl e) (ofEl f) k).lv 0 with h | h
    · exact h
    · exfalso
      have c := centre_in _ hd h
      have c1 := centre_near e he (ofEl f) (may_of f hf).2.2.2 k (by omega) (by omega) _ _ _ (el_hom_nonneg f hf _ _ _) c
      have c' := c
      rw [mixI_comm] at c'
      have c2 := centre_near f hf (ofEl e) (may_of e he).2.2.2 (34 - k) (by omega) (by omega) _ _ _ (el_hom_nonneg e he _ _ _) c'
      rw [← show mixI (ofEl e) (ofEl f) k = mixI (ofEl f) (ofEl e) (34 - k) from mixI_comm _ _ _] at c2
      generalize hi : mixI (ofEl e) (ofEl f) k = i at *
      have dd := int_sq_nonneg i.d
      have t1 : form e.d (-e.b) e.a (i.x - e.x * i.d) (i.y - e.y * i.d) ≤ 4 * (i.d * i.d) * (e.a * e.d - e.b * e.b) := by
        have n0 := form_el_nonneg e he (i.x - e.x * i.d) (i.y - e.y * i.d)
        have p0 := Int.mul_nonneg dd (Int.le_of_lt m1.2.2)
        have q1 := Int.mul_le_mul_of_nonneg_right k1 n0
        have e1 : 34 * (i.d * i.d) * (e.a * e.d - e.b * e.b) = 34 * (i.d * i.d * (e.a * e.d - e.b * e.b)) := by grind
        have e2 : 4 * (i.d * i.d) * (e.a * e.d - e.b * e.b) = 4 * (i.d * i.d * (e.a * e.d - e.b * e.b)) := by grind
        omega
      have t2 : form f.d (-f.b) f.a (i.x - f.x * i.d) (i.y - f.y * i.d) ≤ 4 * (i.d * i.d) * (f.a * f.d - f.b * f.b) := by
        have n0 := form_el_nonneg f hf (i.x - f.x * i.d) (i.y - f.y * i.d)
        have p0 := Int.mul_nonneg dd (Int.le_of_lt m2.2.2)
        have q1 := Int.mul_le_mul_of_nonneg_right (show 9 ≤ 34 - k by omega) n0
        have e1 : 34 * (i.d * i.d) * (f.a * f.d - f.b * f.b) = 34 * (i.d * i.d * (f.a * f.d - f.b * f.b)) := by grind
        have e2 : 4 * (i.d * i.d) * (f.a * f.d - f.b * f.b) = 4 * (i.d * i.d * (f.a * f.d - f.b * f.b)) := by grind
        omega
      have a1 := axis_x _ _ _ _ _ _ (by omega) m1.2.2 t1
      have a2 := axis_x _ _ _ _ _ _ (by omega) m2.2.2 t2
      have two : ∀ u d a r : Int, 0 ≤ r → 0 ≤ d → u * u ≤ 4 * (d * d) * a → a ≤ r * r → -(2 * (d * r)) ≤ u ∧ u ≤ 2 * (d * r) := by
        intro u d a r hr hd h ha
        refine sq_bound (by have := Int.mul_nonneg hd hr; omega) ?_
        have h1 := Int.mul_le_mul_of_nonneg_left ha (show 0 ≤ 4 * (d * d) by have := int_sq_nonneg d; omega)
        have e : 2 * (d * r) * (2 * (d * r)) = 4 * (d * d) * (r * r) := by grind
        omega
      have b1 := two _ _ _ r1 p1 (by omega) a1 s1
      have b2 := two _ _ _ r2 p2 (by omega) a2 s2
      rw [hx] at b1
      have k1 := Int.mul_lt_mul_of_pos_left hD hd
      have e1 : i.d * (2 * (r1 + r2)) = 2 * (i.d * r1) + 2 * (i.d * r2) := by grind
      have e2 : i.d * f.x = f.x * i.d := by grind
      omega
  unfold ellI
  rw [if_neg (by omega), if_pos hl]
theorem found_empty (e : El) (O : Int → El × Int) (more : List El) (h : (O 13).2 = 3) : foundE e O more = (El.zero, 3) := by
  obtain ⟨_, h13, _⟩ := gfin_inv (ovV O)
  unfold foundE
  rw [if_pos]
  unfold emptyB
  rw [List.any_eq_true]
  exact ⟨13, h13, by simp [h]⟩
theorem ball_rad (x y r : Int) (hp : mayPt x y = true) (h1 : 1 ≤ r) (h2 : r ≤ 4194304) (m : Int) (hm : 0 ≤ m) (h : 2 * (r * r) ≤ m * m) : El.rad ⟨x, y, r * r, 0, r * r⟩ ≤ m := by
  have bm := ball_may x y r hp h1 h2
  obtain ⟨n, rfl⟩ : ∃ n : Nat, m = n := ⟨m.toNat, by omega⟩
  unfold El.rad El.tr
  rw [if_pos bm]
  simp only
  have q := int_sq_nonneg r
  have := up_le (r * r + r * r).toNat n (by
    have e : ((n * n : Nat) : Int) = (n : Int) * n := by simp
    omega)
  omega
/-- Two balls, and the radius of the one. -/
structure Far (r s gap D : Int) : Prop where
  hr : 2 ≤ r ∧ r < 1002
  hs : 2 ≤ s ∧ s < 1002
  hg : 1 ≤ gap ∧ gap < 1001
  hD : D = 8 * (r + s) + gap
theorem four_sq (r : Int) : 2 * r * (2 * r) = 4 * (r * r) := by grind
section
variable {r s gap D : Int} (h : Far r s gap D)
include h
theorem far_e : El.may ⟨D, 0, r * r, 0, r * r⟩ = true := ball_may _ _ r ((mayPt_iff _ _).2 (by have := h.hr; have := h.hs; have := h.hg; have := h.hD; omega)) (by have := h.hr; omega) (by have := h.hr; omega)
theorem far_n : El.may ⟨0, 0, s * s, 0, s * s⟩ = true := ball_may _ _ s ((mayPt_iff _ _).2 (by decide)) (by have := h.hs; omega) (by have := h.hs; omega)
theorem far_R : 0 ≤ El.rad ⟨0, 0, s * s, 0, s * s⟩ ∧ El.rad ⟨0, 0, s * s, 0, s * s⟩ ≤ 2 * s := by
  have q := int_sq_nonneg s
  refine ⟨rad_nat _, ball_rad _ _ s ((mayPt_iff _ _).2 (by decide)) (by have := h.hs; omega) (by have := h.hs; omega) (2 * s) (by have := h.hs; omega) ?_⟩
  rw [four_sq]; omega
/-- Much too near. -/
theorem far_near : ∃ o, updE ⟨D, 0, r * r, 0, r * r⟩ ⟨0, 0, s * s, 0, s * s⟩ 0 1 = (o, 3) := by
  have me := far_e h
  have mn := far_n h
  have hR := far_R h
  have a1 := h.hr; have a2 := h.hs; have a3 := h.hg; have a4 := h.hD
  refine ⟨El.zero, ?_⟩
  unfold updE
  rw [if_pos ⟨me, mn, (mayRange_iff _ _).2 (by decide)⟩]
  simp only
  obtain ⟨R, hRR⟩ : ∃ R, El.rad ⟨0, 0, s * s, 0, s * s⟩ = R := ⟨_, rfl⟩
  rw [hRR] at hR ⊢
  have hb : ballE 0 0 (1 + R) = (⟨0, 0, (1 + R) * (1 + R), 0, (1 + R) * (1 + R)⟩, 0) := by unfold ballE; rw [if_pos ⟨by decide, by omega, by omega⟩]
  have mb := ball_may 0 0 (1 + R) (by decide) (by omega) (by omega)
  rw [hb]
  simp only [if_true]
  have hf : (fuseE ⟨D, 0, r * r, 0, r * r⟩ ⟨0, 0, (1 + R) * (1 + R), 0, (1 + R) * (1 + R)⟩ 13).2 = 3 := by
    rw [fuse_comm]
    exact fuse_apart' _ _ _ (by decide) (by decide) mb me rfl (1 + R) r (by omega) (by omega) (Int.le_refl _) (Int.le_refl _) (by simp only; omega)
  have hg : gfuseE ⟨D, 0, r * r, 0, r * r⟩ ⟨0, 0, (1 + R) * (1 + R), 0, (1 + R) * (1 + R)⟩ = (El.zero, 3) := by
    rw [gfuse_yes _ _ me mb]; exact found_empty _ _ _ hf
  rw [hg, if_pos rfl]
end
theorem form_tr (e : El) (he : e.may = true) (x y : Int) : form e.a e.b e.d x y ≤ e.tr * (x * x + y * y) := by
  have h := form_el_nonneg e he x y
  have ht : e.tr = e.a + e.d := by unfold El.tr; rw [if_pos he]
  have e1 : (e.a + e.d) * (x * x + y * y) - form e.a e.b e.d x y = form e.d (-e.b) e.a x y := by unfold form; grind
  rw [ht]; omega
theorem le_rtI {z k : Int} (hk : 0 ≤ k) (h : k * k ≤ z) : k ≤ rtI z := by
  have h0 : 0 ≤ z := by have := int_sq_nonneg k; omega
  have a := rtI_spec z h0
  rcases Int.lt_or_le (rtI z) k with c | c
  · have := sq_le_sq' (a := rtI z + 1) (b := k) (by omega) (by omega)
    omega
  · exact c
/-- The ring of a distance that is much too great: nothing. -/
theorem ring_far (D2 h w k m far : Int) (hD : 1089 ≤ D2) (h1 : 32 * h ≤ 49 * D2) (h2 : D2 ≤ 2 * h) (hm : 121 * D2 ≤ 16 * (m * m)) (hw : 1024 * (w * w) ≤ (7 * D2 + 31) * (7 * D2 + 31)) (hk : 1024 * (k * k) ≤ (7 * D2 + 31) * (7 * D2 + 31)) (w0 : 0 ≤ w) (_k0 : 0 ≤ k) (w1 : 32 * w ≤ 7 * D2 + 31) :
    ringHi h w far < ringLo h w k m := by
  obtain ⟨Q, hQ⟩ : ∃ Q, D2 * D2 = Q := ⟨_, rfl⟩
  have q0 : 1089 * D2 ≤ Q := by rw [← hQ]; exact Int.mul_le_mul_of_nonneg_right hD (by omega)
  have e1 : (7 * D2 + 31) * (7 * D2 + 31) = 49 * Q + 434 * D2 + 961 := by rw [← hQ]; grind
  rw [e1] at hw hk
  obtain ⟨M, hM⟩ : ∃ M, m * m = M := ⟨_, rfl⟩
  rw [hM] at hm
  have p1 : D2 * (121 * D2) ≤ 2 * h * (16 * M) := Int.mul_le_mul h2 hm (by omega) (by omega)
  have e2 : D2 * (121 * D2) = 121 * Q := by rw [← hQ]; grind
  have e3 : 2 * h * (16 * M) = 32 * (h * M) := by grind
  obtain ⟨S, hS⟩ : ∃ S, h + w + 1 = S := ⟨_, rfl⟩
  have s0 : 32 * S ≤ 56 * D2 + 63 := by omega
  have s1 : (32 * S) * (32 * S) ≤ (56 * D2 + 63) * (56 * D2 + 63) := Int.mul_le_mul s0 s0 (by omega) (by omega)
  have e4 : (56 * D2 + 63) * (56 * D2 + 63) = 3136 * Q + 7056 * D2 + 3969 := by rw [← hQ]; grind
  have e5 : (32 * S) * (32 * S) = 1024 * (S * S) := by grind
  have left : S * S ≤ h * M - k * k := by omega
  have hr := le_rtI (show 0 ≤ S by omega) left
  have s2 := int_sq_nonneg S
  unfold ringHi ringLo
  rw [hM]
  have hS2 : 0 < S * S := Int.mul_pos (by omega) (by omega)
  rw [if_pos ⟨by omega, by omega⟩]
  omega
section
variable {r s gap D : Int} (h : Far r s gap D)
include h
/-- What is left of the one, told of a distance that is much too great: nothing. -/
theorem far_ring (g : El) (hg : g.may = true) (hp : g.has D 0 = true) (ht : g.tr ≤ r * r + r * r) : ∃ o, updB g ⟨0, 0, s * s, 0, s * s⟩ (3 * D) (3 * D + 1) = (o, 3) := by
  have mn := far_n h
  have hR := far_R h
  have a1 := h.hr; have a2 := h.hs; have a3 := h.hg; have a4 := h.hD
  have D8 : 8 * r ≤ D ∧ 8 * s ≤ D ∧ 33 ≤ D ∧ D ≤ 17100 := by omega
  obtain ⟨D2, hD2⟩ : ∃ z, D * D = z := ⟨_, rfl⟩
  obtain ⟨r2, hr2⟩ : ∃ z, r * r = z := ⟨_, rfl⟩
  rw [hr2] at ht
  have b1 : (8 * r) * (8 * r) ≤ D * D := Int.mul_le_mul D8.1 D8.1 (by omega) (by omega)
  have b2 : 33 * 33 ≤ D * D := Int.mul_le_mul D8.2.2.1 D8.2.2.1 (by decide) (by omega)
  have e1 : (8 * r) * (8 * r) = 64 * r2 := by rw [← hr2]; grind
  have r20 : 0 ≤ r2 := by rw [← hr2]; exact int_sq_nonneg r
  rw [e1, hD2] at b1
  rw [hD2] at b2
  -- the centre is near
  have c0 : (D - g.x) * (D - g.x) + (0 - g.y) * (0 - g.y) ≤ r2 + r2 := by
    have d1 := El.has_dir g D 0 hp 1 0
    have d2 := El.has_dir g D 0 hp 0 1
    have f1 : form g.a g.b g.d 1 0 = g.a := by unfold form; grind
    have f2 : form g.a g.b g.d 0 1 = g.d := by unfold form; grind
    have f3 : ((D - g.x) * 1 + (0 - g.y) * 0) * ((D - g.x) * 1 + (0 - g.y) * 0) = (D - g.x) * (D - g.x) := by grind
    have f4 : ((D - g.x) * 0 + (0 - g.y) * 1) * ((D - g.x) * 0 + (0 - g.y) * 1) = (0 - g.y) * (0 - g.y) := by grind
    have f5 : g.tr = g.a + g.d := by unfold El.tr; rw [if_pos hg]
    omega
  obtain ⟨X, hX⟩ : ∃ z, g.x = z := ⟨_, rfl⟩
  obtain ⟨Y, hY⟩ : ∃ z, g.y = z := ⟨_, rfl⟩
  rw [hX, hY] at c0
  obtain ⟨t, htt⟩ : ∃ z, D - X = z := ⟨_, rfl⟩
  rw [htt] at c0
  have t2 := int_sq_nonneg t
  have y2 := int_sq_nonneg (0 - Y)
  have tb := sq_bound (z := t) (r := 2 * r) (by omega) (by rw [four_sq, hr2]; omega)
  have eX : X = D - t := by omega
  obtain ⟨H, hH⟩ : ∃ z, X * X + Y * Y = z := ⟨_, rfl⟩
  have eH : H = D2 - 2 * (D * t) + (t * t + (0 - Y) * (0 - Y)) := by rw [← hH, ← hD2, eX]; grind
  have dt1 := Int.mul_le_mul_of_nonneg_left tb.2 (show 0 ≤ D by omega)
  have dt2 := Int.mul_le_mul_of_nonneg_left tb.1 (show 0 ≤ D by omega)
  have dr := Int.mul_le_mul_of_nonneg_left D8.1 (show 0 ≤ D by omega)
  have e2 : D * (2 * r) = 2 * (D * r) := by grind
  have e3 : D * -(2 * r) = -(2 * (D * r)) := by grind
  have e4 : D * (8 * r) = 8 * (D * r) := by grind
  rw [e2] at dt1; rw [e3] at dt2; rw [e4, hD2] at dr
  have H1 : 32 * H ≤ 49 * D2 := by omega
  have H2 : D2 ≤ 2 * H := by omega
  have H0 : 0 < H := by omega
  have f1 := form_tr g hg X Y
  have f2 := form_tr g hg (-Y) X
  have e5 : (-Y) * (-Y) + X * X = H := by rw [← hH]; grind
  rw [hH] at f1
  rw [e5] at f2
  have tH : g.tr * H ≤ (r2 + r2) * H := Int.mul_le_mul_of_nonneg_right ht (by omega)
  have rH : 64 * r2 * (32 * H) ≤ D2 * (49 * D2) := Int.mul_le_mul b1 H1 (by omega) (by omega)
  obtain ⟨U, hU⟩ : ∃ z, r2 * H = z := ⟨_, rfl⟩
  obtain ⟨Q, hQ⟩ : ∃ z, D2 * D2 = z := ⟨_, rfl⟩
  have e6 : 64 * r2 * (32 * H) = 2048 * U := by rw [← hU]; grind
  have e7 : D2 * (49 * D2) = 49 * Q := by rw [← hQ]; grind
  have e8 : (r2 + r2) * H = 2 * U := by rw [← hU]; grind
  rw [e6, e7] at rH
  rw [e8] at tH
  -- the root of it
  obtain ⟨c, hc1, hc2⟩ : ∃ c, 7 * D2 ≤ 32 * c ∧ 32 * c ≤ 7 * D2 + 31 := ⟨(7 * D2 + 31) / 32, by omega, by omega⟩
  have cc : (7 * D2) * (7 * D2) ≤ (32 * c) * (32 * c) := Int.mul_le_mul hc1 hc1 (by omega) (by omega)
  have e9 : (7 * D2) * (7 * D2) = 49 * Q := by rw [← hQ]; grind
  have e10 : (32 * c) * (32 * c) = 1024 * (c * c) := by grind
  have cU : (32 * c) * (32 * c) ≤ (7 * D2 + 31) * (7 * D2 + 31) := Int.mul_le_mul hc2 hc2 (by omega) (by omega)
  have n1 := form_nonneg g hg X Y
  have n2 := form_nonneg g hg (-Y) X
  have w1 := upI_le (form g.a g.b g.d X Y) c (by omega) (by omega)
  have k1 := upI_le (form g.a g.b g.d (-Y) X) c (by omega) (by omega)
  have w0 := (upI_spec _ n1).1
  have k0 := (upI_spec _ n2).1
  obtain ⟨w, hw⟩ : ∃ z, upI (form g.a g.b g.d X Y) = z := ⟨_, rfl⟩
  obtain ⟨k, hk⟩ : ∃ z, upI (form g.a g.b g.d (-Y) X) = z := ⟨_, rfl⟩
  rw [hw] at w1 w0
  rw [hk] at k1 k0
  have ww := Int.mul_le_mul w1 w1 w0 (show 0 ≤ c by omega)
  have kk := Int.mul_le_mul k1 k1 k0 (show 0 ≤ c by omega)
  obtain ⟨R, hRR⟩ : ∃ R, El.rad ⟨0, 0, s * s, 0, s * s⟩ = R := ⟨_, rfl⟩
  rw [hRR] at hR
  have m1 : 11 * D ≤ 4 * (3 * D - R) := by omega
  have m2 : (11 * D) * (11 * D) ≤ (4 * (3 * D - R)) * (4 * (3 * D - R)) := Int.mul_le_mul m1 m1 (by omega) (by omega)
  have e11 : (11 * D) * (11 * D) = 121 * D2 := by rw [← hD2]; grind
  have e12 : (4 * (3 * D - R)) * (4 * (3 * D - R)) = 16 * ((3 * D - R) * (3 * D - R)) := by grind
  have RF := ring_far D2 H w k (3 * D - R) (3 * D + 1 + R) (by omega) H1 H2 (by omega) (by omega) (by omega) w0 k0 (by omega)
  have hne : ¬ (X - 0 = 0 ∧ Y - 0 = 0) := by
    rintro ⟨z1, z2⟩
    have z3 : X = 0 := by omega
    have z4 : Y = 0 := by omega
    rw [z3, z4] at hH
    simp at hH; omega
  have hrng : mayRange (3 * D) (3 * D + 1) = true := (mayRange_iff _ _).2 (by omega)
  have key : (ringE g ⟨0, 0, s * s, 0, s * s⟩ (3 * D) (3 * D + 1)).2 = 3 := by
    unfold ringE
    rw [if_pos ⟨hg, mn, hrng⟩]
    simp only
    rw [hX, hY, if_neg hne, Int.sub_zero, Int.sub_zero, hH, hw, hk, hRR, show max 0 (3 * D - R) = 3 * D - R by omega]
    unfold ringEnd
    rw [if_pos RF]
  refine ⟨El.zero, ?_⟩
  unfold updB
  rw [if_pos key]
/-- Much too far. -/
theorem far_far : ∃ o, updE ⟨D, 0, r * r, 0, r * r⟩ ⟨0, 0, s * s, 0, s * s⟩ (3 * D) (3 * D + 1) = (o, 3) := by
  have me := far_e h
  have mn := far_n h
  have hR := far_R h
  have a1 := h.hr; have a2 := h.hs; have a3 := h.hg; have a4 := h.hD
  unfold updE
  rw [if_pos ⟨me, mn, (mayRange_iff _ _).2 (by omega)⟩]
  simp only
  obtain ⟨R, hRR⟩ : ∃ R, El.rad ⟨0, 0, s * s, 0, s * s⟩ = R := ⟨_, rfl⟩
  rw [hRR] at hR ⊢
  obtain ⟨t, ht⟩ : ∃ t, 3 * D + 1 + R = t := ⟨_, rfl⟩
  rw [ht]
  have hb : ballE 0 0 t = (⟨0, 0, t * t, 0, t * t⟩, 0) := by unfold ballE; rw [if_pos ⟨by decide, by omega, by omega⟩]
  have mb := ball_may 0 0 t (by decide) (by omega) (by omega)
  rw [hb]
  simp only [if_true]
  have bh : El.has ⟨0, 0, t * t, 0, t * t⟩ D 0 = true := by
    have := ball_has 0 0 t D 0 (by decide) (by omega) (by omega) (by
      have := Int.mul_le_mul (show D ≤ t by omega) (show D ≤ t by omega) (by omega) (by omega)
      omega)
    rw [Int.zero_add, Int.zero_add] at this
    exact this
  have eh : El.has ⟨D, 0, r * r, 0, r * r⟩ D 0 = true := centre_has ⟨D, 0, r * r, 0, r * r⟩ me
  obtain ⟨g, k, hg⟩ : ∃ g k, gfuseE ⟨D, 0, r * r, 0, r * r⟩ ⟨0, 0, t * t, 0, t * t⟩ = (g, k) := ⟨_, _, rfl⟩
  rw [hg]
  rcases gholds _ _ me mb D 0 hg with ⟨-, h'⟩ | ⟨h0, h1, gm, t1, -⟩
  · exact absurd ⟨eh, bh⟩ h'
  · simp only
    rw [if_neg (by omega), if_pos h0]
    have he : El.tr ⟨D, 0, r * r, 0, r * r⟩ = r * r + r * r := by unfold El.tr; rw [if_pos me]
    rw [he] at t1
    exact far_ring h g gm (h1 eh bh) t1
end
end Go.Proofs.Ytfohihjeemmedaa
