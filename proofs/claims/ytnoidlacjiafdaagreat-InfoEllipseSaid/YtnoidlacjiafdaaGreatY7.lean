/- Info.Ellipse of the document: its contract. -/
import Derived.Test.YtnoidlacjiafdaaGreatY6
import Derived.Test.YtnoidlacjiafdaaGreatJc
namespace Go.Proofs.YtnoidlacjiafdaaGreat
set_option linter.unusedSimpArgs false
set_option linter.unusedVariables false
open Go.RowKit

theorem fitI_er2 (q : Int) : (fitI q).2 = 0 ∨ (fitI q).2 = 2 := by unfold fitI; split <;> simp
theorem nearI_er2 (a b : Int) : (nearI a b).2 = 0 ∨ (nearI a b).2 = 2 := fitI_er2 _
theorem ceilI_er2 (a b : Int) : (ceilI a b).2 = 0 ∨ (ceilI a b).2 = 2 := fitI_er2 _
theorem floorI_er2 (a b : Int) : (floorI a b).2 = 0 ∨ (floorI a b).2 = 2 := fitI_er2 _
theorem e5n_max {a b c d e : Int} (ha : a = 0 ∨ a = 2) (hb : b = 0 ∨ b = 2) (hc : c = 0 ∨ c = 2) (hd : d = 0 ∨ d = 2) (he : e = 0 ∨ e = 2) (k : Nat) (h : ¬ e5n a b c d e k = 0) : max (max (max (max (max 0 a) b) c) e) d ≠ 0 := by
  unfold e5n at h
  split at h <;> omega
theorem e5n_zero {a b c d e : Int} (h : ∀ k, k < 5 → e5n a b c d e k = 0) : max (max (max (max (max 0 a) b) c) e) d = 0 := by
  have h0 := h 0 (by decide)
  have h1 := h 1 (by decide)
  have h2 := h 2 (by decide)
  have h3 := h 3 (by decide)
  have h4 := h 4 (by decide)
  simp only [e5n] at h0 h1 h2 h3 h4
  omega
theorem rell_c (i : Iq) (h : i.Sml 205) (u : Value) (w : World) (hu : InfoQ w u i) :
    Calls Tryz.prog 16 #[u] w fun e w' => e = .returned (.tuple #[elV (ellI i).1, .int .i64 (ellI i).2]) ∧ Below w.heap.size w w' := by
  have o := Iq.out h
  have lA := h.A.lim (by decide)
  have lB := h.B.lim (by decide)
  have lD := h.D.lim (by decide)
  have lU := h.U.lim (by decide)
  have lV := h.V.lim (by decide)
  have lZ := h.Z.lim (by decide)
  have lN := h.N.lim (by decide)
  have ld := o.d.lim (by decide)
  have lx := o.x.lim (by decide)
  have ly := o.y.lim (by decide)
  have ll := o.lv.lim (by decide)
  have s2 : Sm 205 2 := by unfold Sm; exact Nat.le_trans (by decide) (Nat.pow_le_pow_right (by decide) (show 1 ≤ 205 by decide))
  have HD : ((WI.of i.A).mul (WI.of i.D)).sub ((WI.of i.B).mul (WI.of i.B)) = WI.of i.d := by
    rw [WI.of_mul lA lD, WI.of_mul lB lB, WI.of_sub ((h.A.mul h.D).lim (by decide)) ((h.B.mul h.B).lim (by decide))]; rfl
  have HX : ((WI.of i.D).mul (WI.of i.U)).sub ((WI.of i.B).mul (WI.of i.V)) = WI.of i.x := by
    rw [WI.of_mul lD lU, WI.of_mul lB lV, WI.of_sub ((h.D.mul h.U).lim (by decide)) ((h.B.mul h.V).lim (by decide))]; rfl
  have HY : ((WI.of i.A).mul (WI.of i.V)).sub ((WI.of i.B).mul (WI.of i.U)) = WI.of i.y := by
    rw [WI.of_mul lA lV, WI.of_mul lB lU, WI.of_sub ((h.A.mul h.V).lim (by decide)) ((h.B.mul h.U).lim (by decide))]; rfl
  have HL : (((WI.of i.N).sub (WI.of i.Z)).mul (WI.of i.d)).add ((((WI.of i.D).mul ((WI.of i.U).mul (WI.of i.U))).add ((WI.of i.A).mul ((WI.of i.V).mul (WI.of i.V)))).add (((WI.of 2).mul ((WI.of i.B).mul ((WI.of i.U).mul (WI.of i.V)))).neg)) = WI.of i.lv := by
    have a1 := ((h.N.sub h.Z).mul o.d)
    have a2 := ((h.D.mul (h.U.mul h.U)).add (h.A.mul (h.V.mul h.V)))
    have a3 := s2.mul (h.B.mul (h.U.mul h.V))
    rw [WI.of_sub lN lZ, WI.of_mul ((h.N.sub h.Z).lim (by decide)) ld, WI.of_mul lU lU, WI.of_mul lV lV, WI.of_mul lD ((h.U.mul h.U).lim (by decide)), WI.of_mul lA ((h.V.mul h.V).lim (by decide)),
      WI.of_add ((h.D.mul (h.U.mul h.U)).lim (by decide)) ((h.A.mul (h.V.mul h.V)).lim (by decide)), WI.of_mul lU lV, WI.of_mul lB ((h.U.mul h.V).lim (by decide)),
      WI.of_mul (s2.lim (by decide)) ((h.B.mul (h.U.mul h.V)).lim (by decide)), WI.of_neg (a3.lim (by decide)), WI.of_add (a2.lim (by decide)) (a3.neg.lim (by decide)),
      WI.of_add (a1.lim (by decide)) (((a2.mono (show 205 + (205 + 205) + 1 ≤ 900 by decide)).add (a3.neg.mono (show 205 + (205 + (205 + 205)) ≤ 900 by decide))).lim (by decide))]
    rfl
  have HS : (WI.of i.d).mul (WI.of i.d) = WI.of (i.d * i.d) := WI.of_mul ld ld
  have HP : (WI.of i.lv).mul (WI.of i.D) = WI.of (i.lv * i.D) := WI.of_mul ll lD
  have HQ : (WI.of i.lv).mul (WI.of i.A) = WI.of (i.lv * i.A) := WI.of_mul ll lA
  have HR : ((WI.of i.lv).mul (WI.of i.B)).neg = WI.of (-(i.lv * i.B)) := by rw [WI.of_mul ll lB, WI.of_neg ((o.lv.mul h.B).lim (by decide))]
  have sP := (o.lv.mul h.D)
  have sQ := (o.lv.mul h.A)
  have sR := (o.lv.mul h.B).neg
  have sS := o.d.mul o.d
  have HV : overB [WI.of i.A, WI.of i.B, WI.of i.D, WI.of i.U, WI.of i.V, WI.of i.Z, WI.of i.N] = false := by
    simp [overB, WI.ov_of lA, WI.ov_of lB, WI.ov_of lD, WI.ov_of lU, WI.ov_of lV, WI.ov_of lZ, WI.ov_of lN]
  have gA : (WI.of i.A).sign = i.A.sign := WI.of_sign lA
  have gd : (WI.of i.d).sign = i.d.sign := WI.of_sign ld
  have gl : (WI.of i.lv).sign = i.lv.sign := WI.of_sign ll
  have N1 : 0 < i.d → nearV (WI.of i.x) (WI.of i.d) = nearI i.x i.d := fun hd => nearV_of _ _ (o.x.mono (by decide)) (o.d.mono (by decide)) hd
  have N2 : 0 < i.d → nearV (WI.of i.y) (WI.of i.d) = nearI i.y i.d := fun hd => nearV_of _ _ (o.y.mono (by decide)) (o.d.mono (by decide)) hd
  have p2 : 0 < i.d → 0 < i.d * i.d := fun hd => Int.mul_pos hd hd
  have N3 : 0 < i.d → ceilV (WI.of (i.lv * i.D)) (WI.of (i.d * i.d)) = ceilI (i.lv * i.D) (i.d * i.d) := fun hd => ceilV_of _ _ (sP.mono (by decide)) (sS.mono (by decide)) (p2 hd)
  have N4 : 0 < i.d → ceilV (WI.of (i.lv * i.A)) (WI.of (i.d * i.d)) = ceilI (i.lv * i.A) (i.d * i.d) := fun hd => ceilV_of _ _ (sQ.mono (by decide)) (sS.mono (by decide)) (p2 hd)
  have N5 : 0 < i.d → floorV (WI.of (-(i.lv * i.B))) (WI.of (i.d * i.d)) = floorI (-(i.lv * i.B)) (i.d * i.d) := fun hd => floorV_of _ _ (sR.mono (by decide)) (sS.mono (by decide)) (p2 hd)
  refine rell_main u (WI.of i.A) (WI.of i.B) (WI.of i.D) (WI.of i.U) (WI.of i.V) (WI.of i.Z) (WI.of i.N) _ _ (WI.of i.d) (WI.of (i.d * i.d)) _ _ _ _ _ _ _ _ _ _ (WI.of i.lv) (WI.of (i.lv * i.D)) (WI.of (i.lv * i.A)) _ (WI.of (-(i.lv * i.B))) _ _ (WI.of i.x) _ _ (WI.of i.y) w
    (Lib.hid rfl) (Lib.hid rfl) (Lib.hid HD) (Lib.hid HS) (Lib.hid rfl) (Lib.hid rfl) (Lib.hid rfl) (Lib.hid rfl) (Lib.hid rfl) (Lib.hid rfl) (Lib.hid rfl) (Lib.hid rfl) (Lib.hid rfl) (Lib.hid rfl) (Lib.hid HL) (Lib.hid HP) (Lib.hid HQ) (Lib.hid rfl) (Lib.hid HR) (Lib.hid rfl) (Lib.hid rfl) (Lib.hid HX) (Lib.hid rfl) (Lib.hid rfl) (Lib.hid HY)
    (Lib.hid HV) (Lib.hid ⟨WI.ov_of ld, WI.ov_of (sS.lim (by decide)), WI.ov_of ll, WI.ov_of (sP.lim (by decide)), WI.ov_of (sQ.lim (by decide)), WI.ov_of (sR.lim (by decide)), WI.ov_of lx, WI.ov_of ly⟩) hu
    (ellI i) _ _ _ (nearV (WI.of i.x) (WI.of i.d)).1 (nearV (WI.of i.y) (WI.of i.d)).1 (ceilV (WI.of (i.lv * i.D)) (WI.of (i.d * i.d))).1 (floorV (WI.of (-(i.lv * i.B))) (WI.of (i.d * i.d))).1 (ceilV (WI.of (i.lv * i.A)) (WI.of (i.d * i.d))).1 (nearV (WI.of i.x) (WI.of i.d)).2 (nearV (WI.of i.y) (WI.of i.d)).2 (ceilV (WI.of (i.lv * i.D)) (WI.of (i.d * i.d))).2 (floorV (WI.of (-(i.lv * i.B))) (WI.of (i.d * i.d))).2 (ceilV (WI.of (i.lv * i.A)) (WI.of (i.d * i.d))).2 (Lib.hid gA) (Lib.hid gd) (Lib.hid gl) (Lib.hid rfl) (Lib.hid rfl) (Lib.hid rfl) (Lib.hid rfl) (Lib.hid rfl) (Lib.hid ?_) (Lib.hid ?_) (Lib.hid ?_) (Lib.hid ?_)
  · intro hs
    rw [int_sign_pos, int_sign_pos] at hs
    unfold ellI; rw [if_pos hs]
  · intro h1 h2 h3
    have g1 := int_sign_pos i.A; have g2 := int_sign_pos i.d; have g3 := int_sign_neg i.lv
    unfold ellI; rw [if_neg (by omega), if_pos (by omega)]
  · intro h1 h2 h3 k hk hne
    have g1 := int_sign_pos i.A; have g2 := int_sign_pos i.d; have g3 := int_sign_neg i.lv
    have q2 : 0 < i.d := by omega
    rw [N1 q2, N2 q2, N3 q2, N4 q2, N5 q2] at hne
    unfold ellI; rw [if_neg (by omega), if_neg (by omega)]
    unfold ellEnd; rw [if_pos (.inl (e5n_max (nearI_er2 _ _) (nearI_er2 _ _) (ceilI_er2 _ _) (floorI_er2 _ _) (ceilI_er2 _ _) k hne))]
  · intro h1 h2 h3 hz
    have g1 := int_sign_pos i.A; have g2 := int_sign_pos i.d; have g3 := int_sign_neg i.lv
    have q2 : 0 < i.d := by omega
    rw [N1 q2, N2 q2, N3 q2, N4 q2, N5 q2] at hz ⊢
    unfold ellI; rw [if_neg (by omega), if_neg (by omega), e5n_zero hz]
theorem rell_v {i : Iq} (h : Hid (i.Sml 205)) {o : El} {k : Int} (ho : Hid (ellI i = (o, k))) {u : Value} {w : World} (hu : InfoQ w u i) :
    Calls Tryz.prog 16 #[u] w fun e w' => e = .returned (.tuple #[elV o, .int .i64 k]) ∧ Below w.heap.size w w' := by
  have := rell_c i h.out u w hu
  rwa [ho.out] at this
end Go.Proofs.YtnoidlacjiafdaaGreat
