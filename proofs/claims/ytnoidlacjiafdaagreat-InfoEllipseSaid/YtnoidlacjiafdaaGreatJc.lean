/- Ellipse of an inequality, mixed, Fuse, Cut; the plain laws of mixtures; awake of the laws of info. -/
import Derived.Test.YtnoidlacjiafdaaGreatJb
import Derived.Test.YtnoidlacjiafdaaGreatBE
namespace Go.Proofs.YtnoidlacjiafdaaGreat
set_option linter.unusedSimpArgs false
set_option linter.unusedVariables false
open Go.RowKit

def Iq.d (i : Iq) : Int := i.A * i.D - i.B * i.B
def Iq.x (i : Iq) : Int := i.D * i.U - i.B * i.V
def Iq.y (i : Iq) : Int := i.A * i.V - i.B * i.U
def Iq.lv (i : Iq) : Int := (i.N - i.Z) * i.d + (i.D * (i.U * i.U) + i.A * (i.V * i.V) + -(2 * (i.B * (i.U * i.V))))
/-- To the nearest, halves up. -/
def nearI (a b : Int) : Int × Int := fitI ((2 * a + b).fdiv (2 * b))
def ceilI (a b : Int) : Int × Int := fitI (cdiv a b)
def floorI (a b : Int) : Int × Int := fitI (a.fdiv b)
/-- Ellipse. -/
def ellI (i : Iq) : El × Int :=
  if i.A ≤ 0 ∨ i.d ≤ 0 then (El.zero, 1)
  else if i.lv < 0 then (El.zero, 3)
  else ellEnd (nearI i.x i.d).1 (nearI i.y i.d).1 (ceilI (i.lv * i.D) (i.d * i.d)).1 (floorI (-(i.lv * i.B)) (i.d * i.d)).1 (ceilI (i.lv * i.A) (i.d * i.d)).1
    (max (max (max (max (max 0 (nearI i.x i.d).2) (nearI i.y i.d).2) (ceilI (i.lv * i.D) (i.d * i.d)).2) (ceilI (i.lv * i.A) (i.d * i.d)).2) (floorI (-(i.lv * i.B)) (i.d * i.d)).2)
theorem WI.ov_of {a : Int} (h : a.natAbs < lim) : (WI.of a).ov = false := by unfold WI.ov; rw [WI.of_v h]; rfl
theorem int_sign_pos (a : Int) : a.sign ≤ 0 ↔ a ≤ 0 := by
  rcases Int.lt_trichotomy a 0 with h | h | h
  · rw [Int.sign_eq_neg_one_of_neg h]; omega
  · subst h; simp
  · rw [Int.sign_eq_one_of_pos h]; omega
theorem int_sign_neg (a : Int) : a.sign < 0 ↔ a < 0 := by
  rcases Int.lt_trichotomy a 0 with h | h | h
  · rw [Int.sign_eq_neg_one_of_neg h]; omega
  · subst h; simp
  · rw [Int.sign_eq_one_of_pos h]; omega
structure Iq.Out (i : Iq) : Prop where
  d : Sm 411 i.d
  x : Sm 411 i.x
  y : Sm 411 i.y
  lv : Sm 630 i.lv
theorem Iq.out {i : Iq} (h : i.Sml 205) : i.Out := by
  refine ⟨(h.A.mul h.D).sub (h.B.mul h.B), (h.D.mul h.U).sub (h.B.mul h.V), (h.A.mul h.V).sub (h.B.mul h.U), ?_⟩
  have hd : Sm 411 i.d := (h.A.mul h.D).sub (h.B.mul h.B)
  have h2 : Sm 2 2 := by unfold Sm; decide
  have a1 := ((h.N.sub h.Z).mul hd).mono (show 206 + 411 ≤ 628 by decide)
  have a2 := ((h.D.mul (h.U.mul h.U)).add (h.A.mul (h.V.mul h.V))).mono (show 205 + (205 + 205) + 1 ≤ 627 by decide)
  have a3 := ((h2.mul (h.B.mul (h.U.mul h.V))).neg).mono (show 2 + (205 + (205 + 205)) ≤ 627 by decide)
  have := (a1.add (a2.add a3)).mono (show 628 + 1 ≤ 630 by decide)
  exact this
theorem ell_c (i : Iq) (h : i.Sml 205) (w : World) :
    Calls Tryz.prog 15 #[iqV i] w fun e w' => e = .returned (.tuple #[elV (ellI i).1, .int .i64 (ellI i).2]) ∧ Below w.heap.size w w' := by
  have o := Iq.out h
  have lA := h.A.lim (by decide)
  have lB := h.B.lim (by decide)
  have lD := h.D.lim (by decide)
  have lU := h.U.lim (by decide)
  have lV := h.V.lim (by decide)
  have lZ := h.Z.lim (by decide)
  have lN := h.N.lim (by decide)
  have ld := o.d.lim (by decide)
  have lx := o.x.lim (by decide)
  have ly := o.y.lim (by decide)
  have ll := o.lv.lim (by decide)
  have s2 : Sm 205 2 := by unfold Sm; exact Nat.le_trans (by decide) (Nat.pow_le_pow_right (by decide) (show 1 ≤ 205 by decide))
  have HD : ((WI.of i.A).mul (WI.of i.D)).sub ((WI.of i.B).mul (WI.of i.B)) = WI.of i.d := by
    rw [WI.of_mul lA lD, WI.of_mul lB lB, WI.of_sub ((h.A.mul h.D).lim (by decide)) ((h.B.mul h.B).lim (by decide))]; rfl
  have HX : ((WI.of i.D).mul (WI.of i.U)).sub ((WI.of i.B).mul (WI.of i.V)) = WI.of i.x := by
    rw [WI.of_mul lD lU, WI.of_mul lB lV, WI.of_sub ((h.D.mul h.U).lim (by decide)) ((h.B.mul h.V).lim (by decide))]; rfl
  have HY : ((WI.of i.A).mul (WI.of i.V)).sub ((WI.of i.B).mul (WI.of i.U)) = WI.of i.y := by
    rw [WI.of_mul lA lV, WI.of_mul lB lU, WI.of_sub ((h.A.mul h.V).lim (by decide)) ((h.B.mul h.U).lim (by decide))]; rfl
  have HL : levW (WI.of i.A) (WI.of i.B) (WI.of i.D) (WI.of i.U) (WI.of i.V) (WI.of i.Z) (WI.of i.N) (WI.of i.d) = WI.of i.lv := by
    unfold levW
    have a1 := ((h.N.sub h.Z).mul o.d)
    have a2 := ((h.D.mul (h.U.mul h.U)).add (h.A.mul (h.V.mul h.V)))
    have a3 := s2.mul (h.B.mul (h.U.mul h.V))
    rw [WI.of_sub lN lZ, WI.of_mul ((h.N.sub h.Z).lim (by decide)) ld, WI.of_mul lU lU, WI.of_mul lV lV,
      sum4_of (j := 410) _ _ _ _ (h.D.mono (by decide)) (h.U.mul h.U) (h.A.mono (by decide)) (h.V.mul h.V) (by decide), WI.of_mul lU lV, WI.of_mul lB ((h.U.mul h.V).lim (by decide)),
      WI.of_mul (s2.lim (by decide)) ((h.B.mul (h.U.mul h.V)).lim (by decide)), WI.of_neg (a3.lim (by decide)), WI.of_add (a2.lim (by decide)) (a3.neg.lim (by decide)),
      WI.of_add (a1.lim (by decide)) (((a2.mono (show 205 + (205 + 205) + 1 ≤ 900 by decide)).add (a3.neg.mono (show 205 + (205 + (205 + 205)) ≤ 900 by decide))).lim (by decide))]
    rfl
  have HS : (WI.of i.d).mul (WI.of i.d) = WI.of (i.d * i.d) := WI.of_mul ld ld
  have HP : (WI.of i.lv).mul (WI.of i.D) = WI.of (i.lv * i.D) := WI.of_mul ll lD
  have HQ : (WI.of i.lv).mul (WI.of i.A) = WI.of (i.lv * i.A) := WI.of_mul ll lA
  have HR : ((WI.of i.lv).mul (WI.of i.B)).neg = WI.of (-(i.lv * i.B)) := by rw [WI.of_mul ll lB, WI.of_neg ((o.lv.mul h.B).lim (by decide))]
  have sP := (o.lv.mul h.D)
  have sQ := (o.lv.mul h.A)
  have sR := (o.lv.mul h.B).neg
  have sS := o.d.mul o.d
  have HV : overB [WI.of i.A, WI.of i.B, WI.of i.D, WI.of i.U, WI.of i.V, WI.of i.Z, WI.of i.N] = false := by
    simp [overB, WI.ov_of lA, WI.ov_of lB, WI.ov_of lD, WI.ov_of lU, WI.ov_of lV, WI.ov_of lZ, WI.ov_of lN]
  have HW : overB [WI.of i.d, WI.of i.x, WI.of i.y, WI.of i.lv, WI.of (i.d * i.d), WI.of (i.lv * i.D), WI.of (i.lv * i.A), WI.of (-(i.lv * i.B))] = false := by
    simp [overB, WI.ov_of ld, WI.ov_of lx, WI.ov_of ly, WI.ov_of ll, WI.ov_of (sS.lim (by decide)), WI.ov_of (sP.lim (by decide)), WI.ov_of (sQ.lim (by decide)), WI.ov_of (sR.lim (by decide))]
  have gA : (WI.of i.A).sign = i.A.sign := WI.of_sign lA
  have gd : (WI.of i.d).sign = i.d.sign := WI.of_sign ld
  have gl : (WI.of i.lv).sign = i.lv.sign := WI.of_sign ll
  have N1 : 0 < i.d → nearV (WI.of i.x) (WI.of i.d) = nearI i.x i.d := fun hd => nearV_of _ _ (o.x.mono (by decide)) (o.d.mono (by decide)) hd
  have N2 : 0 < i.d → nearV (WI.of i.y) (WI.of i.d) = nearI i.y i.d := fun hd => nearV_of _ _ (o.y.mono (by decide)) (o.d.mono (by decide)) hd
  have p2 : 0 < i.d → 0 < i.d * i.d := fun hd => Int.mul_pos hd hd
  have N3 : 0 < i.d → ceilV (WI.of (i.lv * i.D)) (WI.of (i.d * i.d)) = ceilI (i.lv * i.D) (i.d * i.d) := fun hd => ceilV_of _ _ (sP.mono (by decide)) (sS.mono (by decide)) (p2 hd)
  have N4 : 0 < i.d → ceilV (WI.of (i.lv * i.A)) (WI.of (i.d * i.d)) = ceilI (i.lv * i.A) (i.d * i.d) := fun hd => ceilV_of _ _ (sQ.mono (by decide)) (sS.mono (by decide)) (p2 hd)
  have N5 : 0 < i.d → floorV (WI.of (-(i.lv * i.B))) (WI.of (i.d * i.d)) = floorI (-(i.lv * i.B)) (i.d * i.d) := fun hd => floorV_of _ _ (sR.mono (by decide)) (sS.mono (by decide)) (p2 hd)
  have pos : ∀ a : Int, 0 < a.sign → 0 < a := fun a ha => by have := int_sign_pos a; omega
  have nng : ∀ a : Int, 0 ≤ a.sign → 0 ≤ a := fun a ha => by have := int_sign_neg a; omega
  refine ell_walk _ _ _ _ _ _ _ _ _ _ _ _ _ _ _ HD HX HY HL HS HP HQ HR HV HW (ellI i) ?_ ?_ (nearV (WI.of i.x) (WI.of i.d)).1 (nearV (WI.of i.y) (WI.of i.d)).1 (ceilV (WI.of (i.lv * i.D)) (WI.of (i.d * i.d))).1 (floorV (WI.of (-(i.lv * i.B))) (WI.of (i.d * i.d))).1 (ceilV (WI.of (i.lv * i.A)) (WI.of (i.d * i.d))).1 (nearV (WI.of i.x) (WI.of i.d)).2 (nearV (WI.of i.y) (WI.of i.d)).2 (ceilV (WI.of (i.lv * i.D)) (WI.of (i.d * i.d))).2 (ceilV (WI.of (i.lv * i.A)) (WI.of (i.d * i.d))).2 (floorV (WI.of (-(i.lv * i.B))) (WI.of (i.d * i.d))).2 rfl rfl rfl rfl rfl ?_ w
  · intro hs
    rw [gA, gd, int_sign_pos, int_sign_pos] at hs
    unfold ellI; rw [if_pos hs]
  · intro h1 h2 h3
    rw [gA] at h1; rw [gd] at h2; rw [gl, int_sign_neg] at h3
    have := pos _ h1; have := pos _ h2
    unfold ellI; rw [if_neg (by omega), if_pos h3]
  · intro h1 h2 h3
    rw [gA] at h1; rw [gd] at h2; rw [gl] at h3
    have q1 := pos _ h1; have q2 := pos _ h2; have q3 := nng _ h3
    rw [N1 q2, N2 q2, N3 q2, N4 q2, N5 q2]
    unfold ellI; rw [if_neg (by omega), if_neg (by omega)]
end Go.Proofs.YtnoidlacjiafdaaGreat
namespace Go.Proofs.YtnoidlacjiafdaaGreat
open Go.RowKit

def mixedV (i j : Iq) (k bad : Int) : El × Int := if bad = 0 then (if (mixQ i j k).2 = 0 then ellI (mixQ i j k).1 else (El.zero, 1)) else (El.zero, 1)
theorem mix_v (i j m : Iq) (e : Int) (hi : i.Sml 120) (hj : j.Sml 120) (k : Int) (h : mixQ i j k = (m, e)) (w : World) :
    Calls Tryz.prog 142 #[.agg (blk i.ws), .agg (blk j.ws), .int .i64 k] w fun r w' => r = .returned (.tuple #[.agg (blk m.ws), .int .i64 e]) ∧ Below w.heap.size w w' := by
  have := mix_c i j hi hj k w
  rw [h] at this; exact this
theorem ell_v (m : Iq) (h : m.Sml 205) (o : El) (e : Int) (ho : ellI m = (o, e)) (w : World) :
    Calls Tryz.prog 15 #[.agg (blk m.ws)] w fun r w' => r = .returned (.tuple #[elV o, .int .i64 e]) ∧ Below w.heap.size w w' := by
  have := ell_c m h w
  rw [ho] at this; exact this
set_option maxRecDepth 100000 in
set_option maxHeartbeats 4000000 in
theorem mixed_c (i j : Iq) (hi : i.Sml 120) (hj : j.Sml 120) (k bad : Int) (hm : (mixQ i j k).1.Sml 205) (w : World) :
    Calls Tryz.prog 112 #[.agg (blk i.ws), .agg (blk j.ws), .int .i64 k, .int .i64 bad] w fun r w' => r = .returned (.tuple #[elV (mixedV i j k bad).1, .int .i64 (mixedV i j k bad).2]) ∧ Below w.heap.size w w' := by
  obtain ⟨m, e, hq⟩ : ∃ m e, mixQ i j k = (m, e) := ⟨_, _, rfl⟩
  have E0 : mixedV i j k bad = if bad = 0 then (if e = 0 then ellI m else (El.zero, 1)) else (El.zero, 1) := by unfold mixedV; rw [hq]
  rw [hq] at hm
  have HQ := Lib.hid hq
  have HI := Lib.hid hi
  have HJ := Lib.hid hj
  have HM := Lib.hid hm
  clear hq hi hj hm
  have lI : i.ws.length = 7 := rfl
  have lJ : j.ws.length = 7 := rfl
  have lM : m.ws.length = 7 := rfl
  obtain ⟨LI, eI⟩ : ∃ l, l = i.ws := ⟨_, rfl⟩
  obtain ⟨LJ, eJ⟩ : ∃ l, l = j.ws := ⟨_, rfl⟩
  obtain ⟨LM, eM⟩ : ∃ l, l = m.ws := ⟨_, rfl⟩
  have C1 : Hid (∀ w, Calls Tryz.prog 142 #[.agg (blk LI), .agg (blk LJ), .int .i64 k] w fun r w' => r = .returned (.tuple #[.agg (blk LM), .int .i64 e]) ∧ Below w.heap.size w w') := by
    rw [eI, eJ, eM]; exact fun w => mix_v i j m e HI.out HJ.out k HQ.out w
  obtain ⟨⟨ox, oy, oa, ob, od⟩, f, ho⟩ : ∃ o f, ellI m = (o, f) := ⟨_, _, rfl⟩
  have C2 : Hid (∀ w, Calls Tryz.prog 15 #[.agg (blk LM)] w fun r w' => r = .returned (.tuple #[elC ox oy oa ob od, .int .i64 f]) ∧ Below w.heap.size w w') := by
    rw [eM]; exact fun w => ell_v m HM.out _ _ ho w
  rw [← eI] at lI; rw [← eJ] at lJ; rw [← eM] at lM
  rw [← eI, ← eJ]
  rw [ho] at E0
  have E := Lib.hid E0
  clear E0 ho eI eJ eM HQ HI HJ HM
  by_cases hb : bad = 0
  · subst hb
    by_cases he : e = 0
    · subst he
      go_enter Tryz.func112, Tryz.ntmps112
      go_wp2_with fail
      refine (C1.out _).mono ?_; rintro e w1 ⟨rfl, hb1⟩; have z_w1 := hb1.size; (try simp at z_w1); obtain ⟨y_w1_0_0, c_w1_0_0, f_w1_0_0, r_w1_0_0, t_w1_0_0, p_w1_0_0⟩ := bq hb1 (w.heap.size); obtain ⟨y_w1_0_1, c_w1_0_1, f_w1_0_1, r_w1_0_1, t_w1_0_1, p_w1_0_1⟩ := bq hb1 (w.heap.size + 1); obtain ⟨y_w1_0_2, c_w1_0_2, f_w1_0_2, r_w1_0_2, t_w1_0_2, p_w1_0_2⟩ := bq hb1 (w.heap.size + 1 + 1)
      go_wp2_with fail
      refine (C2.out _).mono ?_; rintro e w2 ⟨rfl, hb2⟩; have z_w2 := hb2.size; (try simp at z_w2); obtain ⟨y_w2_0_0, c_w2_0_0, f_w2_0_0, r_w2_0_0, t_w2_0_0, p_w2_0_0⟩ := bq hb2 (w.heap.size); obtain ⟨y_w2_0_1, c_w2_0_1, f_w2_0_1, r_w2_0_1, t_w2_0_1, p_w2_0_1⟩ := bq hb2 (w.heap.size + 1); obtain ⟨y_w2_0_2, c_w2_0_2, f_w2_0_2, r_w2_0_2, t_w2_0_2, p_w2_0_2⟩ := bq hb2 (w.heap.size + 1 + 1)
      go_wp2_with fail
      exact bodyPost_row_t 5 #[.int .i64 ox, .int .i64 oy, .int .i64 oa, .int .i64 ob, .int .i64 od] (.int .i64 f) rfl rfl rfl rfl Tryz.underlying27 rfl (by kernel_rfl) (row_of_cells 4 _ rfl (by intro i hi; rcases i with _ | _ | _ | _ | _ | i; (go_simp); (go_simp); (go_simp); (go_simp); (go_simp); exact absurd hi (by omega))) ⟨by rw [E.out]; rfl, below_byR⟩
    · have ne : (e != 0) = true := by simp [he]
      have EV : Hid (mixedV i j k 0 = (El.zero, 1)) := by show _ = _; rw [E.out, if_pos rfl, if_neg he]
      clear E
      go_enter Tryz.func112, Tryz.ntmps112
      go_wp2_with fail
      refine (C1.out _).mono ?_; rintro e w1 ⟨rfl, hb1⟩; have z_w1 := hb1.size; (try simp at z_w1); obtain ⟨y_w1_0_0, c_w1_0_0, f_w1_0_0, r_w1_0_0, t_w1_0_0, p_w1_0_0⟩ := bq hb1 (w.heap.size); obtain ⟨y_w1_0_1, c_w1_0_1, f_w1_0_1, r_w1_0_1, t_w1_0_1, p_w1_0_1⟩ := bq hb1 (w.heap.size + 1); obtain ⟨y_w1_0_2, c_w1_0_2, f_w1_0_2, r_w1_0_2, t_w1_0_2, p_w1_0_2⟩ := bq hb1 (w.heap.size + 1 + 1)
      go_wp2_with fail
      exact bodyPost_row_t 5 #[.int .i64 0, .int .i64 0, .int .i64 0, .int .i64 0, .int .i64 0] (.int .i64 1) rfl rfl rfl rfl Tryz.underlying27 rfl (by kernel_rfl) (row_of_cells 4 _ rfl (by intro i hi; rcases i with _ | _ | _ | _ | _ | i; (go_simp); (go_simp); (go_simp); (go_simp); (go_simp); exact absurd hi (by omega))) ⟨by rw [EV.out]; rfl, below_byR⟩
  · have nb : (bad != 0) = true := by simp [hb]
    have EV : Hid (mixedV i j k bad = (El.zero, 1)) := by show _ = _; rw [E.out, if_neg hb]
    clear E
    go_enter Tryz.func112, Tryz.ntmps112
    go_wp2_with fail
    refine (C1.out _).mono ?_; rintro e w1 ⟨rfl, hb1⟩; have z_w1 := hb1.size; (try simp at z_w1); obtain ⟨y_w1_0_0, c_w1_0_0, f_w1_0_0, r_w1_0_0, t_w1_0_0, p_w1_0_0⟩ := bq hb1 (w.heap.size); obtain ⟨y_w1_0_1, c_w1_0_1, f_w1_0_1, r_w1_0_1, t_w1_0_1, p_w1_0_1⟩ := bq hb1 (w.heap.size + 1); obtain ⟨y_w1_0_2, c_w1_0_2, f_w1_0_2, r_w1_0_2, t_w1_0_2, p_w1_0_2⟩ := bq hb1 (w.heap.size + 1 + 1)
    go_wp2_with fail
    exact bodyPost_row_t 5 #[.int .i64 0, .int .i64 0, .int .i64 0, .int .i64 0, .int .i64 0] (.int .i64 1) rfl rfl rfl rfl Tryz.underlying27 rfl (by kernel_rfl) (row_of_cells 4 _ rfl (by intro i hi; rcases i with _ | _ | _ | _ | _ | i; (go_simp); (go_simp); (go_simp); (go_simp); (go_simp); exact absurd hi (by omega))) ⟨by rw [EV.out]; rfl, below_byR⟩
end Go.Proofs.YtnoidlacjiafdaaGreat
namespace Go.Proofs.YtnoidlacjiafdaaGreat

/-! ### Ellipses and strips as inequalities -/
/-! ### How great the numbers are -/
structure Iq.Cls (zs ns : Nat) (i : Iq) : Prop where
  A : Sm 80 i.A
  B : Sm 80 i.B
  D : Sm 80 i.D
  U : Sm 80 i.U
  V : Sm 80 i.V
  Z : Sm zs i.Z
  N : Sm ns i.N
theorem sm_zero (n : Nat) : Sm n 0 := Nat.zero_le _
theorem Iq.zero_cls (zs ns : Nat) : Iq.zero.Cls zs ns := ⟨sm_zero _, sm_zero _, sm_zero _, sm_zero _, sm_zero _, sm_zero _, sm_zero _⟩
theorem Iq.Cls.sml {zs ns : Nat} {i : Iq} (h : i.Cls zs ns) (h1 : zs ≤ 120) (h2 : ns ≤ 120) : i.Sml 120 :=
  ⟨h.A.mono (by decide), h.B.mono (by decide), h.D.mono (by decide), h.U.mono (by decide), h.V.mono (by decide), h.Z.mono h1, h.N.mono h2⟩
theorem ofE_cls (e : El) : (ofE e).1.Cls 93 93 := by
  unfold ofE; split
  · rename_i h
    have m := (El.may_iff e).1 h
    have sx : Sm 22 e.x := by show e.x.natAbs ≤ 2 ^ 22; omega
    have sy : Sm 22 e.y := by show e.y.natAbs ≤ 2 ^ 22; omega
    have sa : Sm 46 e.a := by show e.a.natAbs ≤ 2 ^ 46; omega
    have sb : Sm 46 e.b := by show e.b.natAbs ≤ 2 ^ 46; omega
    have sd : Sm 46 e.d := by show e.d.natAbs ≤ 2 ^ 46; omega
    refine ⟨sd.mono (by decide), sb.neg.mono (by decide), sa.mono (by decide), ((sd.mul sx).add (sb.neg.mul sy)).mono (by decide), ((sb.neg.mul sx).add (sa.mul sy)).mono (by decide), ?_, ?_⟩
    · exact (((sd.mul (sx.mul sx)).add (sa.mul (sy.mul sy))).add ((sb.neg.mul (sx.mul sy)).add (sb.neg.mul (sx.mul sy)))).mono (by decide)
    · exact ((sa.mul sd).sub (sb.mul sb)).mono (by decide)
  · exact Iq.zero_cls _ _
theorem mixI_sml {i j : Iq} {a b c d : Nat} (hi : i.Cls a b) (hj : j.Cls c d) (k : Int) (h0 : 0 ≤ k) (h1 : k ≤ 34) (q1 : a + d ≤ 198) (q2 : c + b ≤ 198) (q3 : b ≤ 118) (q4 : d ≤ 118) (q5 : b + d ≤ 199) : (mixI i j k).Sml 205 := by
  have sk : Sm 6 k := by show k.natAbs ≤ 2 ^ 6; omega
  have sl : Sm 6 (34 - k) := by show (34 - k).natAbs ≤ 2 ^ 6; omega
  have s34 : Sm 6 34 := by show (34 : Int).natAbs ≤ 2 ^ 6; decide
  have P := sk.mul hj.N
  have Q := sl.mul hi.N
  have key : ∀ x y, Sm 80 x → Sm 80 y → Sm 205 (x * (k * j.N) + y * ((34 - k) * i.N)) := fun x y hx hy =>
    ((hx.mul P).mono (show 80 + (6 + d) ≤ 204 by omega)).add ((hy.mul Q).mono (show 80 + (6 + b) ≤ 204 by omega))
  refine ⟨key _ _ hi.A hj.A, key _ _ hi.B hj.B, key _ _ hi.D hj.D, key _ _ hi.U hj.U, key _ _ hi.V hj.V, ?_, ?_⟩
  · exact ((hi.Z.mul P).mono (show a + (6 + d) ≤ 204 by omega)).add ((hj.Z.mul Q).mono (show c + (6 + b) ≤ 204 by omega))
  · exact (s34.mul (hi.N.mul hj.N)).mono (by omega)
theorem fuse_sml (e f : El) (k : Int) : (mixQ (ofE e).1 (ofE f).1 k).1.Sml 205 := by
  unfold mixQ; split
  · rename_i hk; exact mixI_sml (ofE_cls e) (ofE_cls f) k hk.1 hk.2 (by decide) (by decide) (by decide) (by decide) (by decide)
  · exact ⟨sm_zero _, sm_zero _, sm_zero _, sm_zero _, sm_zero _, sm_zero _, sm_zero _⟩
/-! ### What an inequality's ellipse holds -/
end Go.Proofs.YtnoidlacjiafdaaGreat
namespace Go.Proofs.YtnoidlacjiafdaaGreat
open Go.RowKit

def fuseE (e f : El) (k : Int) : El × Int := mixedV (ofE e).1 (ofE f).1 k (max (ofE e).2 (ofE f).2)
theorem of_v (x y a b d : Int) (L : List WI) (e : Int) (hL : (ofE ⟨x, y, a, b, d⟩).1.ws = L) (he : (ofE ⟨x, y, a, b, d⟩).2 = e) (w : World) :
    Calls Tryz.prog 111 #[elC x y a b d] w fun r w' => r = .returned (.tuple #[.agg (blk L), .int .i64 e]) ∧ Below w.heap.size w w' := by
  subst hL; subst he; exact infoOf_c ⟨x, y, a, b, d⟩ w
set_option maxRecDepth 100000 in
set_option maxHeartbeats 4000000 in
theorem fuse_c (x y a b d x' y' a' b' d' k : Int) (w : World) :
    Calls Tryz.prog 47 #[elC x y a b d, elC x' y' a' b' d', .int .i64 k] w fun r w' => r = .returned (.tuple #[elV (fuseE ⟨x, y, a, b, d⟩ ⟨x', y', a', b', d'⟩ k).1, .int .i64 (fuseE ⟨x, y, a, b, d⟩ ⟨x', y', a', b', d'⟩ k).2]) ∧ Below w.heap.size w w' := by
  obtain ⟨LI, eI⟩ : ∃ l, (ofE ⟨x, y, a, b, d⟩).1.ws = l := ⟨_, rfl⟩
  obtain ⟨LJ, eJ⟩ : ∃ l, (ofE ⟨x', y', a', b', d'⟩).1.ws = l := ⟨_, rfl⟩
  obtain ⟨e1, h1⟩ : ∃ e, (ofE ⟨x, y, a, b, d⟩).2 = e := ⟨_, rfl⟩
  obtain ⟨e2, h2⟩ : ∃ e, (ofE ⟨x', y', a', b', d'⟩).2 = e := ⟨_, rfl⟩
  have lI : LI.length = 7 := by rw [← eI]; rfl
  have lJ : LJ.length = 7 := by rw [← eJ]; rfl
  have H1 : Hid (∀ w, Calls Tryz.prog 111 #[elC x y a b d] w fun r w' => r = .returned (.tuple #[.agg (blk LI), .int .i64 e1]) ∧ Below w.heap.size w w') := of_v _ _ _ _ _ _ _ eI h1
  have H2 : Hid (∀ w, Calls Tryz.prog 111 #[elC x' y' a' b' d'] w fun r w' => r = .returned (.tuple #[.agg (blk LJ), .int .i64 e2]) ∧ Below w.heap.size w w') := of_v _ _ _ _ _ _ _ eJ h2
  obtain ⟨⟨ox, oy, oa, ob, od⟩, f, ho⟩ : ∃ o f, fuseE ⟨x, y, a, b, d⟩ ⟨x', y', a', b', d'⟩ k = (o, f) := ⟨_, _, rfl⟩
  have H3 : Hid (∀ w, Calls Tryz.prog 112 #[.agg (blk LI), .agg (blk LJ), .int .i64 k, .int .i64 (max e1 e2)] w fun r w' => r = .returned (.tuple #[elC ox oy oa ob od, .int .i64 f]) ∧ Below w.heap.size w w') := by
    intro w
    have := mixed_c (ofE ⟨x, y, a, b, d⟩).1 (ofE ⟨x', y', a', b', d'⟩).1 ((ofE_cls _).sml (by decide) (by decide)) ((ofE_cls _).sml (by decide) (by decide)) k (max e1 e2) (fuse_sml _ _ k) w
    have e : mixedV (ofE ⟨x, y, a, b, d⟩).1 (ofE ⟨x', y', a', b', d'⟩).1 k (max e1 e2) = (⟨ox, oy, oa, ob, od⟩, f) := by rw [← h1, ← h2]; exact ho
    rw [e] at this
    rw [← eI, ← eJ]; exact this
  have EV := Lib.hid ho
  clear ho eI eJ h1 h2
  go_enter Tryz.func47, Tryz.ntmps47
  go_wp2_with fail
  refine (H1.out _).mono ?_; rintro e w1 ⟨rfl, hb1⟩; have z_w1 := hb1.size; (try simp at z_w1); obtain ⟨y_w1_0_0, c_w1_0_0, f_w1_0_0, r_w1_0_0, t_w1_0_0, p_w1_0_0⟩ := bq hb1 (w.heap.size); obtain ⟨y_w1_0_1, c_w1_0_1, f_w1_0_1, r_w1_0_1, t_w1_0_1, p_w1_0_1⟩ := bq hb1 (w.heap.size + 1); obtain ⟨y_w1_0_2, c_w1_0_2, f_w1_0_2, r_w1_0_2, t_w1_0_2, p_w1_0_2⟩ := bq hb1 (w.heap.size + 1 + 1)
  go_wp2_with fail
  refine (H2.out _).mono ?_; rintro e w2 ⟨rfl, hb2⟩; have z_w2 := hb2.size; (try simp at z_w2); obtain ⟨y_w2_0_0, c_w2_0_0, f_w2_0_0, r_w2_0_0, t_w2_0_0, p_w2_0_0⟩ := bq hb2 (w.heap.size); obtain ⟨y_w2_0_1, c_w2_0_1, f_w2_0_1, r_w2_0_1, t_w2_0_1, p_w2_0_1⟩ := bq hb2 (w.heap.size + 1); obtain ⟨y_w2_0_2, c_w2_0_2, f_w2_0_2, r_w2_0_2, t_w2_0_2, p_w2_0_2⟩ := bq hb2 (w.heap.size + 1 + 1); obtain ⟨y_w2_1_0, c_w2_1_0, f_w2_1_0, r_w2_1_0, t_w2_1_0, p_w2_1_0⟩ := bq hb2 (w1.heap.size)
  go_wp2_with fail
  refine (H3.out _).mono ?_; rintro e w3 ⟨rfl, hb3⟩; have z_w3 := hb3.size; (try simp at z_w3); obtain ⟨y_w3_0_0, c_w3_0_0, f_w3_0_0, r_w3_0_0, t_w3_0_0, p_w3_0_0⟩ := bq hb3 (w.heap.size); obtain ⟨y_w3_0_1, c_w3_0_1, f_w3_0_1, r_w3_0_1, t_w3_0_1, p_w3_0_1⟩ := bq hb3 (w.heap.size + 1); obtain ⟨y_w3_0_2, c_w3_0_2, f_w3_0_2, r_w3_0_2, t_w3_0_2, p_w3_0_2⟩ := bq hb3 (w.heap.size + 1 + 1)
  go_wp2_with fail
  exact bodyPost_row_t 5 #[.int .i64 ox, .int .i64 oy, .int .i64 oa, .int .i64 ob, .int .i64 od] (.int .i64 f) rfl rfl rfl rfl Tryz.underlying27 rfl (by kernel_rfl) (row_of_cells 4 _ rfl (by intro i hi; rcases i with _ | _ | _ | _ | _ | i; (go_simp); (go_simp); (go_simp); (go_simp); (go_simp); exact absurd hi (by omega))) ⟨by rw [EV.out], below_byR⟩
theorem fuse_v (x y a b d x' y' a' b' d' k ox oy oa ob od f : Int) (h : fuseE ⟨x, y, a, b, d⟩ ⟨x', y', a', b', d'⟩ k = (⟨ox, oy, oa, ob, od⟩, f)) (w : World) :
    Calls Tryz.prog 47 #[elC x y a b d, elC x' y' a' b' d', .int .i64 k] w fun r w' => r = .returned (.tuple #[elC ox oy oa ob od, .int .i64 f]) ∧ Below w.heap.size w w' := by
  have := fuse_c x y a b d x' y' a' b' d' k w
  rw [h] at this; exact this
end Go.Proofs.YtnoidlacjiafdaaGreat
namespace Go.Proofs.YtnoidlacjiafdaaGreat

theorem ofE_may (e : El) (h : e.may = true) : ofE e = (ofEl e, 0) := by unfold ofE; rw [if_pos h]
theorem fuseE_may (e f : El) (k : Int) (he : e.may = true) (hf : f.may = true) (h0 : 0 ≤ k) (h1 : k ≤ 34) : fuseE e f k = ellI (mixI (ofEl e) (ofEl f) k) := by
  unfold fuseE mixedV; rw [ofE_may e he, ofE_may f hf]
  show (if max (0 : Int) 0 = 0 then (if (mixQ (ofEl e) (ofEl f) k).2 = 0 then _ else _) else _) = _
  have : mixQ (ofEl e) (ofEl f) k = (mixI (ofEl e) (ofEl f) k, 0) := by unfold mixQ; rw [if_pos ⟨h0, h1⟩]
  rw [this]; rfl
/-! ### What is in both is in what is fused -/
/-! ### Far from each other: nothing -/
/-! ### Shifted -/
/-! ### Two balls -/
theorem fuse_balls : fuseE ⟨-3, 0, 25, 0, 25⟩ ⟨3, 0, 25, 0, 25⟩ 17 = (⟨0, 0, 29, 0, 29⟩, 0) := by
  have r1 : El.rad ⟨0, 0, 17, 0, 17⟩ = 6 := by
    have h : (El.tr ⟨0, 0, 17, 0, 17⟩).toNat = 34 := by decide
    unfold El.rad; rw [h, up_unique (n := 34) (r := 6) (by decide) (.inr (by decide))]; rfl
  have r2 : El.rad ⟨0, 0, 1, 0, 1⟩ = 2 := by
    have h : (El.tr ⟨0, 0, 1, 0, 1⟩).toNat = 2 := by decide
    unfold El.rad; rw [h, up_unique (n := 2) (r := 2) (by decide) (.inr (by decide))]; rfl
  have hs : sumEl ⟨0, 0, 17, 0, 17⟩ ⟨0, 0, 1, 0, 1⟩ = ⟨0, 0, 29, 0, 29⟩ := by
    unfold sumEl; rw [r1, r2]; rfl
  have hb : ballE 0 0 1 = (⟨0, 0, 1, 0, 1⟩, 0) := rfl
  have hg : growE ⟨0, 0, 17, 0, 17⟩ 1 = (⟨0, 0, 29, 0, 29⟩, 0) := by
    unfold growE; rw [if_pos (by decide), if_neg (by decide), hb]
    unfold sumE; rw [if_pos (by decide), hs, if_pos (by decide)]
  rw [fuseE_may _ _ _ (by decide) (by decide) (by decide) (by decide)]
  have hm : mixI (ofEl ⟨-3, 0, 25, 0, 25⟩) (ofEl ⟨3, 0, 25, 0, 25⟩) 17 = ⟨531250, 0, 531250, 0, 0, 4781250, 13281250⟩ := rfl
  rw [hm]
  unfold ellI
  rw [if_neg (by decide), if_neg (by decide)]
  have he : ellEnd 0 0 16 0 16 0 = (⟨0, 0, 29, 0, 29⟩, 0) := by
    unfold ellEnd; rw [if_neg (by decide), if_pos (by decide)]; exact hg
  exact he
end Go.Proofs.YtnoidlacjiafdaaGreat
namespace Go.Proofs.YtnoidlacjiafdaaGreat
open Go.RowKit

set_option maxHeartbeats 1000000 in
theorem awake6_c (w : World) : Calls Tryz.prog 14 #[] w fun e w' => e = .returned (.bool true) ∧ Below w.heap.size w w' := by
  have h1 : Hid (ballE (-3) 0 5 = (⟨-3, 0, 25, 0, 25⟩, 0)) := show _ = _ from rfl
  have h2 : Hid (ballE 3 0 5 = (⟨3, 0, 25, 0, 25⟩, 0)) := show _ = _ from rfl
  have h3 := Lib.hid fuse_balls
  have h4 : Hid (El.has ⟨0, 0, 29, 0, 29⟩ 0 4 = true) := by show _ = _; decide
  go_enter Tryz.func14, Tryz.ntmps14
  go_wp2_with fail
  refine (ellball_v _ _ _ _ _ _ _ _ _ h1.out _).mono ?_; rintro e w1 ⟨rfl, hb1⟩; have s1 := hb1.size
  go_wp2_with fail
  refine (ellball_v _ _ _ _ _ _ _ _ _ h2.out _).mono ?_; rintro e w2 ⟨rfl, hb2⟩; have z_w2 := hb2.size; (try simp at z_w2); obtain ⟨y_w2_0_0, c_w2_0_0, f_w2_0_0, r_w2_0_0, t_w2_0_0, p_w2_0_0⟩ := bq hb2 (w1.heap.size)
  go_wp2_with fail
  refine (fuse_v _ _ _ _ _ _ _ _ _ _ _ _ _ _ _ _ _ h3.out _).mono ?_; rintro e w3 ⟨rfl, hb3⟩; have z_w3 := hb3.size; (try simp at z_w3); obtain ⟨y_w3_0_0, c_w3_0_0, f_w3_0_0, r_w3_0_0, t_w3_0_0, p_w3_0_0⟩ := bq hb3 (w1.heap.size); obtain ⟨y_w3_1_0, c_w3_1_0, f_w3_1_0, r_w3_1_0, t_w3_1_0, p_w3_1_0⟩ := bq hb3 (w2.heap.size)
  go_wp2_with fail
  refine (ellin_v _ _ _ _ _ _ _ _ h4.out _).mono ?_; rintro e w4 ⟨rfl, hb4⟩; have z_w4 := hb4.size; (try simp at z_w4); obtain ⟨y_w4_0_0, c_w4_0_0, f_w4_0_0, r_w4_0_0, t_w4_0_0, p_w4_0_0⟩ := bq hb4 (w1.heap.size); obtain ⟨y_w4_1_0, c_w4_1_0, f_w4_1_0, r_w4_1_0, t_w4_1_0, p_w4_1_0⟩ := bq hb4 (w2.heap.size)
  go_wp2
  go_ret
  exact ⟨rfl, below_byR⟩
end Go.Proofs.YtnoidlacjiafdaaGreat
