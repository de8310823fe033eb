/- The walks of track.Merge and TrackMerges. -/
import Derived.Test.YtilginoibhfeiaaGreatK2
import Derived.Test.YtilginoibhfeiaaGreatHA
import Derived.Test.YtilginoibhfeiaaGreatX0
import Derived.Lib.QuietBelow
namespace Go.Proofs.YtilginoibhfeiaaGreat
open Go.RowKit

def mergeE (e f : El) : El × Int := if f.may = true then (if (gfuseE e f).2 = 0 then ((gfuseE e f).1, 0) else (f, 0)) else (El.zero, 1)
theorem mergeE_no (e f : El) (h : f.may = false) : mergeE e f = (El.zero, 1) := by unfold mergeE; rw [h, if_neg (by decide)]
/-- What track.Merge says. -/
theorem merge_holds (e f : El) (hf : f.may = true) (p q : Int) {m : El} {k : Int} (h : mergeE e f = (m, k)) :
    k = 0 ∧ m.may = true ∧ m.tr ≤ f.tr ∧ (f.has p q = true → (e.may = true → e.has p q = true) → m.has p q = true) := by
  unfold mergeE at h
  rw [if_pos hf] at h
  obtain ⟨g, l, hg⟩ : ∃ g l, gfuseE e f = (g, l) := ⟨_, _, rfl⟩
  rw [hg] at h
  simp only at h
  cases he : e.may with
  | false =>
    rw [gfuse_no e f (.inl he)] at hg
    injection hg with h1 h2
    subst h2
    rw [if_neg (by decide)] at h
    injection h with h3 h4
    subst h3; subst h4
    exact ⟨rfl, hf, Int.le_refl _, fun h _ => h⟩
  | true =>
    rcases gholds e f he hf p q hg with ⟨h1, h2⟩ | ⟨h1, h2, h3, h4, h5⟩
    · rw [if_neg (by omega)] at h
      injection h with h3 h4
      subst h3; subst h4
      exact ⟨rfl, hf, Int.le_refl _, fun h _ => h⟩
    · rw [if_pos h1] at h
      injection h with h6 h7
      subst h6; subst h7
      exact ⟨rfl, h3, h5, fun a b => h2 (b rfl) a⟩
set_option maxRecDepth 100000 in
set_option maxHeartbeats 4000000 in
theorem merge_c (x y a b d x' y' a' b' d' : Int) (w : World) :
    Calls Tryz.prog 12 #[elC x y a b d, elC x' y' a' b' d'] w fun e w' => e = .returned (.tuple #[elV (mergeE ⟨x, y, a, b, d⟩ ⟨x', y', a', b', d'⟩).1, .int .i64 (mergeE ⟨x, y, a, b, d⟩ ⟨x', y', a', b', d'⟩).2]) ∧ Below w.heap.size w w' := by
  cases hf : El.may ⟨x', y', a', b', d'⟩ with
  | false =>
    have HF := Lib.hid hf
    have EV := Lib.hid (mergeE_no ⟨x, y, a, b, d⟩ _ hf)
    clear hf
    go_enter Tryz.func12, Tryz.ntmps12
    go_wp2_with fail
    refine (ellmay_e _ _ HF.out _).mono ?_; rintro e w1 ⟨rfl, hb1⟩; have z_w1 := hb1.size; (try simp at z_w1); obtain ⟨y_w1_0_0, c_w1_0_0, f_w1_0_0, r_w1_0_0, t_w1_0_0, p_w1_0_0⟩ := bq hb1 (w.heap.size); obtain ⟨y_w1_0_1, c_w1_0_1, f_w1_0_1, r_w1_0_1, t_w1_0_1, p_w1_0_1⟩ := bq hb1 (w.heap.size + 1); obtain ⟨y_w1_0_2, c_w1_0_2, f_w1_0_2, r_w1_0_2, t_w1_0_2, p_w1_0_2⟩ := bq hb1 (w.heap.size + 1 + 1)
    go_wp2_with fail
    exact bodyPost_row_t 5 #[.int .i64 0, .int .i64 0, .int .i64 0, .int .i64 0, .int .i64 0] (.int .i64 1) rfl rfl rfl rfl Tryz.underlying27 rfl (by kernel_rfl) (row_of_cells 4 _ rfl (by intro i hi; rcases i with _ | _ | _ | _ | _ | i; (go_simp); (go_simp); (go_simp); (go_simp); (go_simp); exact absurd hi (by omega))) ⟨by rw [EV.out]; rfl, below_byR⟩
  | true =>
    have HF := Lib.hid hf
    obtain ⟨⟨ox, oy, oa, ob, od⟩, k, hg⟩ : ∃ o k, gfuseE ⟨x, y, a, b, d⟩ ⟨x', y', a', b', d'⟩ = (o, k) := ⟨_, _, rfl⟩
    have HG := Lib.hid hg
    by_cases hk : k = 0
    · subst hk
      have EV : Hid (mergeE ⟨x, y, a, b, d⟩ ⟨x', y', a', b', d'⟩ = (⟨ox, oy, oa, ob, od⟩, 0)) := by show _ = _; unfold mergeE; rw [if_pos hf, hg, if_pos rfl]
      clear hf hg
      go_enter Tryz.func12, Tryz.ntmps12
      go_wp2_with fail
      refine (ellmay_e _ _ HF.out _).mono ?_; rintro e w1 ⟨rfl, hb1⟩; have z_w1 := hb1.size; (try simp at z_w1); obtain ⟨y_w1_0_0, c_w1_0_0, f_w1_0_0, r_w1_0_0, t_w1_0_0, p_w1_0_0⟩ := bq hb1 (w.heap.size); obtain ⟨y_w1_0_1, c_w1_0_1, f_w1_0_1, r_w1_0_1, t_w1_0_1, p_w1_0_1⟩ := bq hb1 (w.heap.size + 1); obtain ⟨y_w1_0_2, c_w1_0_2, f_w1_0_2, r_w1_0_2, t_w1_0_2, p_w1_0_2⟩ := bq hb1 (w.heap.size + 1 + 1)
      go_wp2_with fail
      refine (gfuse_v _ _ _ _ _ _ _ _ _ _ _ _ _ _ _ _ HG.out _).mono ?_; rintro e w2 ⟨rfl, hb2⟩; have z_w2 := hb2.size; (try simp at z_w2); obtain ⟨y_w2_0_0, c_w2_0_0, f_w2_0_0, r_w2_0_0, t_w2_0_0, p_w2_0_0⟩ := bq hb2 (w.heap.size); obtain ⟨y_w2_0_1, c_w2_0_1, f_w2_0_1, r_w2_0_1, t_w2_0_1, p_w2_0_1⟩ := bq hb2 (w.heap.size + 1); obtain ⟨y_w2_0_2, c_w2_0_2, f_w2_0_2, r_w2_0_2, t_w2_0_2, p_w2_0_2⟩ := bq hb2 (w.heap.size + 1 + 1)
      go_wp2_with fail
      exact bodyPost_row_t 5 #[.int .i64 ox, .int .i64 oy, .int .i64 oa, .int .i64 ob, .int .i64 od] (.int .i64 0) rfl rfl rfl rfl Tryz.underlying27 rfl (by kernel_rfl) (row_of_cells 4 _ rfl (by intro i hi; rcases i with _ | _ | _ | _ | _ | i; (go_simp); (go_simp); (go_simp); (go_simp); (go_simp); exact absurd hi (by omega))) ⟨by rw [EV.out], below_byR⟩
    · have EV : Hid (mergeE ⟨x, y, a, b, d⟩ ⟨x', y', a', b', d'⟩ = (⟨x', y', a', b', d'⟩, 0)) := by show _ = _; unfold mergeE; rw [if_pos hf, hg, if_neg hk]
      have hk2 : (k == 0) = false := by simp [hk]
      clear hf hg
      go_enter Tryz.func12, Tryz.ntmps12
      go_wp2_with fail
      refine (ellmay_e _ _ HF.out _).mono ?_; rintro e w1 ⟨rfl, hb1⟩; have z_w1 := hb1.size; (try simp at z_w1); obtain ⟨y_w1_0_0, c_w1_0_0, f_w1_0_0, r_w1_0_0, t_w1_0_0, p_w1_0_0⟩ := bq hb1 (w.heap.size); obtain ⟨y_w1_0_1, c_w1_0_1, f_w1_0_1, r_w1_0_1, t_w1_0_1, p_w1_0_1⟩ := bq hb1 (w.heap.size + 1); obtain ⟨y_w1_0_2, c_w1_0_2, f_w1_0_2, r_w1_0_2, t_w1_0_2, p_w1_0_2⟩ := bq hb1 (w.heap.size + 1 + 1)
      go_wp2_with fail
      refine (gfuse_v _ _ _ _ _ _ _ _ _ _ _ _ _ _ _ _ HG.out _).mono ?_; rintro e w2 ⟨rfl, hb2⟩; have z_w2 := hb2.size; (try simp at z_w2); obtain ⟨y_w2_0_0, c_w2_0_0, f_w2_0_0, r_w2_0_0, t_w2_0_0, p_w2_0_0⟩ := bq hb2 (w.heap.size); obtain ⟨y_w2_0_1, c_w2_0_1, f_w2_0_1, r_w2_0_1, t_w2_0_1, p_w2_0_1⟩ := bq hb2 (w.heap.size + 1); obtain ⟨y_w2_0_2, c_w2_0_2, f_w2_0_2, r_w2_0_2, t_w2_0_2, p_w2_0_2⟩ := bq hb2 (w.heap.size + 1 + 1)
      go_wp2_with fail
      exact bodyPost_row_t 5 #[.int .i64 x', .int .i64 y', .int .i64 a', .int .i64 b', .int .i64 d'] (.int .i64 0) rfl rfl rfl rfl Tryz.underlying27 rfl (by kernel_rfl) (row_of_cells 4 _ rfl (by intro i hi; rcases i with _ | _ | _ | _ | _ | i; (go_simp); (go_simp); (go_simp); (go_simp); (go_simp); exact absurd hi (by omega))) ⟨by rw [EV.out], below_byR⟩
theorem merge_v (x y a b d x' y' a' b' d' ox oy oa ob od k : Int) (h : mergeE ⟨x, y, a, b, d⟩ ⟨x', y', a', b', d'⟩ = (⟨ox, oy, oa, ob, od⟩, k)) (w : World) :
    Calls Tryz.prog 12 #[elC x y a b d, elC x' y' a' b' d'] w fun e w' => e = .returned (.tuple #[elC ox oy oa ob od, .int .i64 k]) ∧ Below w.heap.size w w' := by
  have := merge_c x y a b d x' y' a' b' d' w
  rw [h] at this; exact this
set_option maxRecDepth 100000 in
set_option maxHeartbeats 4000000 in
theorem trackMerges_c (x y a b d x' y' a' b' d' p q : Int) (w : World) :
    Calls Tryz.prog 3 #[elC x y a b d, elC x' y' a' b' d', ptV p q] w fun e w' => e = .returned (.bool true) ∧ Below w.heap.size w w' := by
  obtain ⟨⟨ox, oy, oa, ob, od⟩, k, hm⟩ : ∃ o k, mergeE ⟨x, y, a, b, d⟩ ⟨x', y', a', b', d'⟩ = (o, k) := ⟨_, _, rfl⟩
  have HM := Lib.hid hm
  cases hf : El.may ⟨x', y', a', b', d'⟩ with
  | false =>
    have HF := Lib.hid hf
    rw [mergeE_no _ _ hf] at hm
    injection hm with h1 h2
    injection h1 with h3 h4 h5 h6 h7
    subst h2; subst h3; subst h4; subst h5; subst h6; subst h7
    clear hf
    go_enter Tryz.func3, Tryz.ntmps3
    go_wp2_with fail
    obtain ⟨u0, hu0⟩ : ∃ u, u = (((w).alloc (Obj.cells #[.int .i64 x, .int .i64 y, .int .i64 a, .int .i64 b, .int .i64 d] 27)).alloc (Obj.cells #[.int .i64 x', .int .i64 y', .int .i64 a', .int .i64 b', .int .i64 d'] 27)).alloc (Obj.cells #[.int .i64 p, .int .i64 q] 23) := ⟨_, rfl⟩
    rw [← hu0]
    have HB : Hid (Below w.heap.size w u0) := by rw [hu0]; show Below w.heap.size w _; exact below_byR
    have X0 : Hid (Blk u0 (w.heap.size) #[.int .i64 x, .int .i64 y, .int .i64 a, .int .i64 b, .int .i64 d] 27) := by rw [hu0]; exact ((Blk.new' _ _ _ (by simp)).alloc _).alloc _
    have X1 : Hid (Blk u0 (w.heap.size + 1) #[.int .i64 x', .int .i64 y', .int .i64 a', .int .i64 b', .int .i64 d'] 27) := by rw [hu0]; exact (Blk.new' _ _ _ (by simp)).alloc _
    have X2 : Hid (Blk u0 (w.heap.size + 1 + 1) #[.int .i64 p, .int .i64 q] 23) := by rw [hu0]; exact Blk.new' _ _ _ (by simp)
    clear hu0
    refine Calls.mono (merge_v _ _ _ _ _ _ _ _ _ _ _ _ _ _ _ _ HM.out _) ?_
    rintro e x1 ⟨rfl, hb⟩
    replace X0 := Lib.hid (X0.out.keep hb)
    replace X1 := Lib.hid (X1.out.keep hb)
    replace X2 := Lib.hid (X2.out.keep hb)
    replace HB := Lib.hid (HB.out.trans (hb.mono HB.out.size))
    clear hb
    have qX1_0 := X1.out.cell (i := 0) (v := .int .i64 x') rfl
    have qX1_1 := X1.out.cell (i := 1) (v := .int .i64 y') rfl
    have qX1_2 := X1.out.cell (i := 2) (v := .int .i64 a') rfl
    have qX1_3 := X1.out.cell (i := 3) (v := .int .i64 b') rfl
    have qX1_4 := X1.out.cell (i := 4) (v := .int .i64 d') rfl
    have rl_X1 := X1.out.lt
    go_wp2_with fail
    clear qX1_0 qX1_1 qX1_2 qX1_3 qX1_4 rl_X1
    obtain ⟨u2, hu⟩ : ∃ u, u = x1.alloc (Obj.cells #[.int .i64 0, .int .i64 0, .int .i64 0, .int .i64 0, .int .i64 0] 27) := ⟨_, rfl⟩
    rw [← hu]
    obtain ⟨gR, hg⟩ : ∃ g, x1.heap.size = g := ⟨_, rfl⟩
    have gw_gR : w.heap.size ≤ gR := by rw [← hg]; exact HB.out.size
    have hb : Below x1.heap.size x1 u2 := by rw [hu]; exact (Below.refl _ _).alloc (Nat.le_refl _) _
    replace X0 := Lib.hid (X0.out.keep hb)
    replace X1 := Lib.hid (X1.out.keep hb)
    replace X2 := Lib.hid (X2.out.keep hb)
    replace HB := Lib.hid (HB.out.trans (hb.mono HB.out.size))
    clear hb
    have R : Hid (Blk u2 gR #[.int .i64 0, .int .i64 0, .int .i64 0, .int .i64 0, .int .i64 0] 27) := by rw [hu, ← hg]; exact Blk.new _ _ _
    rw [hg]
    clear hu hg
    refine Calls.mono (ellmay_e _ _ HF.out _) ?_
    rintro e x3 ⟨rfl, hb⟩
    replace X0 := Lib.hid (X0.out.keep hb)
    replace X1 := Lib.hid (X1.out.keep hb)
    replace X2 := Lib.hid (X2.out.keep hb)
    replace R := Lib.hid (R.out.keep hb)
    replace HB := Lib.hid (HB.out.trans (hb.mono HB.out.size))
    clear hb
    have qR_0 := R.out.cell (i := 0) (v := .int .i64 0) rfl
    have qR_1 := R.out.cell (i := 1) (v := .int .i64 0) rfl
    have qR_2 := R.out.cell (i := 2) (v := .int .i64 0) rfl
    have qR_3 := R.out.cell (i := 3) (v := .int .i64 0) rfl
    have qR_4 := R.out.cell (i := 4) (v := .int .i64 0) rfl
    have rl_R := R.out.lt
    go_wp2_with fail
    clear qR_0 qR_1 qR_2 qR_3 qR_4 rl_R
    refine Calls.mono (awake19_c _) ?_
    rintro e x4 ⟨rfl, hb⟩
    replace X0 := Lib.hid (X0.out.keep hb)
    replace X1 := Lib.hid (X1.out.keep hb)
    replace X2 := Lib.hid (X2.out.keep hb)
    replace R := Lib.hid (R.out.keep hb)
    replace HB := Lib.hid (HB.out.trans (hb.mono HB.out.size))
    clear hb
    go_wp2_with fail
    go_ret
    exact ⟨rfl, HB.out⟩
  | true =>
    have HF := Lib.hid hf
    obtain ⟨hk, hmay, htr, hhas⟩ := merge_holds _ _ hf p q hm
    subst hk
    obtain ⟨t1, ht1⟩ : ∃ t, El.tr ⟨ox, oy, oa, ob, od⟩ = t := ⟨_, rfl⟩
    obtain ⟨t2, ht2⟩ : ∃ t, El.tr ⟨x', y', a', b', d'⟩ = t := ⟨_, rfl⟩
    rw [ht1, ht2] at htr
    have hd : decide (t2 < t1) = false := decide_eq_false (by omega)
    have HT1 := Lib.hid ht1
    have HT2 := Lib.hid ht2
    have HMY := Lib.hid hmay
    obtain ⟨b1, hb1⟩ : ∃ t, El.has ⟨x', y', a', b', d'⟩ p q = t := ⟨_, rfl⟩
    obtain ⟨em, hem⟩ : ∃ t, El.may ⟨x, y, a, b, d⟩ = t := ⟨_, rfl⟩
    obtain ⟨b2, hb2⟩ : ∃ t, El.has ⟨x, y, a, b, d⟩ p q = t := ⟨_, rfl⟩
    obtain ⟨b3, hb3⟩ : ∃ t, El.has ⟨ox, oy, oa, ob, od⟩ p q = t := ⟨_, rfl⟩
    rw [hb1, hem, hb2, hb3] at hhas
    have HH : Hid (b1 = true → (em = true → b2 = true) → b3 = true) := hhas
    have H1 := Lib.hid hb1
    have H2 := Lib.hid hem
    have H3 := Lib.hid hb2
    have H4 := Lib.hid hb3
    clear hhas hm hf hmay ht1 ht2 hb1 hem hb2 hb3
    go_enter Tryz.func3, Tryz.ntmps3
    go_wp2_with fail
    obtain ⟨u0, hu0⟩ : ∃ u, u = (((w).alloc (Obj.cells #[.int .i64 x, .int .i64 y, .int .i64 a, .int .i64 b, .int .i64 d] 27)).alloc (Obj.cells #[.int .i64 x', .int .i64 y', .int .i64 a', .int .i64 b', .int .i64 d'] 27)).alloc (Obj.cells #[.int .i64 p, .int .i64 q] 23) := ⟨_, rfl⟩
    rw [← hu0]
    have HB : Hid (Below w.heap.size w u0) := by rw [hu0]; show Below w.heap.size w _; exact below_byR
    have X0 : Hid (Blk u0 (w.heap.size) #[.int .i64 x, .int .i64 y, .int .i64 a, .int .i64 b, .int .i64 d] 27) := by rw [hu0]; exact ((Blk.new' _ _ _ (by simp)).alloc _).alloc _
    have X1 : Hid (Blk u0 (w.heap.size + 1) #[.int .i64 x', .int .i64 y', .int .i64 a', .int .i64 b', .int .i64 d'] 27) := by rw [hu0]; exact (Blk.new' _ _ _ (by simp)).alloc _
    have X2 : Hid (Blk u0 (w.heap.size + 1 + 1) #[.int .i64 p, .int .i64 q] 23) := by rw [hu0]; exact Blk.new' _ _ _ (by simp)
    clear hu0
    refine Calls.mono (merge_v _ _ _ _ _ _ _ _ _ _ _ _ _ _ _ _ HM.out _) ?_
    rintro e x1 ⟨rfl, hb⟩
    replace X0 := Lib.hid (X0.out.keep hb)
    replace X1 := Lib.hid (X1.out.keep hb)
    replace X2 := Lib.hid (X2.out.keep hb)
    replace HB := Lib.hid (HB.out.trans (hb.mono HB.out.size))
    clear hb
    have qX1_0 := X1.out.cell (i := 0) (v := .int .i64 x') rfl
    have qX1_1 := X1.out.cell (i := 1) (v := .int .i64 y') rfl
    have qX1_2 := X1.out.cell (i := 2) (v := .int .i64 a') rfl
    have qX1_3 := X1.out.cell (i := 3) (v := .int .i64 b') rfl
    have qX1_4 := X1.out.cell (i := 4) (v := .int .i64 d') rfl
    have rl_X1 := X1.out.lt
    go_wp2_with fail
    clear qX1_0 qX1_1 qX1_2 qX1_3 qX1_4 rl_X1
    obtain ⟨u2, hu⟩ : ∃ u, u = x1.alloc (Obj.cells #[.int .i64 ox, .int .i64 oy, .int .i64 oa, .int .i64 ob, .int .i64 od] 27) := ⟨_, rfl⟩
    rw [← hu]
    obtain ⟨gR, hg⟩ : ∃ g, x1.heap.size = g := ⟨_, rfl⟩
    have gw_gR : w.heap.size ≤ gR := by rw [← hg]; exact HB.out.size
    have hb : Below x1.heap.size x1 u2 := by rw [hu]; exact (Below.refl _ _).alloc (Nat.le_refl _) _
    replace X0 := Lib.hid (X0.out.keep hb)
    replace X1 := Lib.hid (X1.out.keep hb)
    replace X2 := Lib.hid (X2.out.keep hb)
    replace HB := Lib.hid (HB.out.trans (hb.mono HB.out.size))
    clear hb
    have R : Hid (Blk u2 gR #[.int .i64 ox, .int .i64 oy, .int .i64 oa, .int .i64 ob, .int .i64 od] 27) := by rw [hu, ← hg]; exact Blk.new _ _ _
    rw [hg]
    clear hu hg
    refine Calls.mono (ellmay_e _ _ HF.out _) ?_
    rintro e x3 ⟨rfl, hb⟩
    replace X0 := Lib.hid (X0.out.keep hb)
    replace X1 := Lib.hid (X1.out.keep hb)
    replace X2 := Lib.hid (X2.out.keep hb)
    replace R := Lib.hid (R.out.keep hb)
    replace HB := Lib.hid (HB.out.trans (hb.mono HB.out.size))
    clear hb
    go_wp2_with fail
    have qX1_0 := cell_regrown (X1.out.cell (i := 0) (v := .int .i64 x') rfl)
    have qX1_1 := cell_regrown (X1.out.cell (i := 1) (v := .int .i64 y') rfl)
    have qX1_2 := cell_regrown (X1.out.cell (i := 2) (v := .int .i64 a') rfl)
    have qX1_3 := cell_regrown (X1.out.cell (i := 3) (v := .int .i64 b') rfl)
    have qX1_4 := cell_regrown (X1.out.cell (i := 4) (v := .int .i64 d') rfl)
    have qR_0 := cell_regrown (R.out.cell (i := 0) (v := .int .i64 ox) rfl)
    have qR_1 := cell_regrown (R.out.cell (i := 1) (v := .int .i64 oy) rfl)
    have qR_2 := cell_regrown (R.out.cell (i := 2) (v := .int .i64 oa) rfl)
    have qR_3 := cell_regrown (R.out.cell (i := 3) (v := .int .i64 ob) rfl)
    have qR_4 := cell_regrown (R.out.cell (i := 4) (v := .int .i64 od) rfl)
    refine wp_region_quiet_below (by kernel_rfl) (by kernel_rfl) ?_
    repeat (go_big_quiet_step (first
      | (go_at_call 13; exact Calls.regrown_of (by first | with_reducible exact ellmay_e _ _ HMY.out _))
      | (go_at_call 15; exact Calls.regrown_of (by first | with_reducible exact trace_v _ _ _ _ _ _ HT1.out _ | with_reducible exact trace_v _ _ _ _ _ _ HT2.out _))))
    refine wpQuiet_nil ?_
    intro x4 hw
    have hb := below_of_regrown hw
    clear hw qX1_0 qX1_1 qX1_2 qX1_3 qX1_4 qR_0 qR_1 qR_2 qR_3 qR_4
    replace X0 := Lib.hid (X0.out.keep hb)
    replace X1 := Lib.hid (X1.out.keep hb)
    replace X2 := Lib.hid (X2.out.keep hb)
    replace R := Lib.hid (R.out.keep hb)
    replace HB := Lib.hid (HB.out.trans (hb.mono HB.out.size))
    clear hb
    have qX1_0 := X1.out.cell (i := 0) (v := .int .i64 x') rfl
    have qX1_1 := X1.out.cell (i := 1) (v := .int .i64 y') rfl
    have qX1_2 := X1.out.cell (i := 2) (v := .int .i64 a') rfl
    have qX1_3 := X1.out.cell (i := 3) (v := .int .i64 b') rfl
    have qX1_4 := X1.out.cell (i := 4) (v := .int .i64 d') rfl
    have rl_X1 := X1.out.lt
    have qX2_0 := X2.out.cell (i := 0) (v := .int .i64 p) rfl
    have qX2_1 := X2.out.cell (i := 1) (v := .int .i64 q) rfl
    have rl_X2 := X2.out.lt
    go_wp2_with fail
    clear qX1_0 qX1_1 qX1_2 qX1_3 qX1_4 rl_X1 qX2_0 qX2_1 rl_X2
    refine Calls.mono (ellin_v _ _ _ _ _ _ _ _ H1.out _) ?_
    rintro e x5 ⟨rfl, hb⟩
    replace X0 := Lib.hid (X0.out.keep hb)
    replace X1 := Lib.hid (X1.out.keep hb)
    replace X2 := Lib.hid (X2.out.keep hb)
    replace R := Lib.hid (R.out.keep hb)
    replace HB := Lib.hid (HB.out.trans (hb.mono HB.out.size))
    clear hb
    cases b1 with
    | false =>
      have qR_0 := R.out.cell (i := 0) (v := .int .i64 ox) rfl
      have qR_1 := R.out.cell (i := 1) (v := .int .i64 oy) rfl
      have qR_2 := R.out.cell (i := 2) (v := .int .i64 oa) rfl
      have qR_3 := R.out.cell (i := 3) (v := .int .i64 ob) rfl
      have qR_4 := R.out.cell (i := 4) (v := .int .i64 od) rfl
      have rl_R := R.out.lt
      go_wp2_with fail
      clear qR_0 qR_1 qR_2 qR_3 qR_4 rl_R
      refine Calls.mono (rmaye_v _ _ _ _ _ _ HMY.out _) ?_
      rintro e x6 ⟨rfl, hb⟩
      replace X0 := Lib.hid (X0.out.keep hb)
      replace X1 := Lib.hid (X1.out.keep hb)
      replace X2 := Lib.hid (X2.out.keep hb)
      replace R := Lib.hid (R.out.keep hb)
      replace HB := Lib.hid (HB.out.trans (hb.mono HB.out.size))
      clear hb
      go_wp2_with fail
      refine Calls.mono (awake19_c _) ?_
      rintro e x7 ⟨rfl, hb⟩
      replace X0 := Lib.hid (X0.out.keep hb)
      replace X1 := Lib.hid (X1.out.keep hb)
      replace X2 := Lib.hid (X2.out.keep hb)
      replace R := Lib.hid (R.out.keep hb)
      replace HB := Lib.hid (HB.out.trans (hb.mono HB.out.size))
      clear hb
      go_wp2_with fail
      go_ret
      exact ⟨rfl, HB.out⟩
    | true =>
      have qX0_0 := X0.out.cell (i := 0) (v := .int .i64 x) rfl
      have qX0_1 := X0.out.cell (i := 1) (v := .int .i64 y) rfl
      have qX0_2 := X0.out.cell (i := 2) (v := .int .i64 a) rfl
      have qX0_3 := X0.out.cell (i := 3) (v := .int .i64 b) rfl
      have qX0_4 := X0.out.cell (i := 4) (v := .int .i64 d) rfl
      have rl_X0 := X0.out.lt
      go_wp2_with fail
      clear qX0_0 qX0_1 qX0_2 qX0_3 qX0_4 rl_X0
      refine Calls.mono (ellmay_e _ _ H2.out _) ?_
      rintro e x6 ⟨rfl, hb⟩
      replace X0 := Lib.hid (X0.out.keep hb)
      replace X1 := Lib.hid (X1.out.keep hb)
      replace X2 := Lib.hid (X2.out.keep hb)
      replace R := Lib.hid (R.out.keep hb)
      replace HB := Lib.hid (HB.out.trans (hb.mono HB.out.size))
      clear hb
      cases em with
      | false =>
        obtain rfl : b3 = true := HH.out (by simp) (by simp)
        have qR_0 := R.out.cell (i := 0) (v := .int .i64 ox) rfl
        have qR_1 := R.out.cell (i := 1) (v := .int .i64 oy) rfl
        have qR_2 := R.out.cell (i := 2) (v := .int .i64 oa) rfl
        have qR_3 := R.out.cell (i := 3) (v := .int .i64 ob) rfl
        have qR_4 := R.out.cell (i := 4) (v := .int .i64 od) rfl
        have rl_R := R.out.lt
        have qX2_0 := X2.out.cell (i := 0) (v := .int .i64 p) rfl
        have qX2_1 := X2.out.cell (i := 1) (v := .int .i64 q) rfl
        have rl_X2 := X2.out.lt
        go_wp2_with fail
        clear qR_0 qR_1 qR_2 qR_3 qR_4 rl_R qX2_0 qX2_1 rl_X2
        refine Calls.mono (ellin_v _ _ _ _ _ _ _ _ H4.out _) ?_
        rintro e x7 ⟨rfl, hb⟩
        replace X0 := Lib.hid (X0.out.keep hb)
        replace X1 := Lib.hid (X1.out.keep hb)
        replace X2 := Lib.hid (X2.out.keep hb)
        replace R := Lib.hid (R.out.keep hb)
        replace HB := Lib.hid (HB.out.trans (hb.mono HB.out.size))
        clear hb
        have qR_0 := R.out.cell (i := 0) (v := .int .i64 ox) rfl
        have qR_1 := R.out.cell (i := 1) (v := .int .i64 oy) rfl
        have qR_2 := R.out.cell (i := 2) (v := .int .i64 oa) rfl
        have qR_3 := R.out.cell (i := 3) (v := .int .i64 ob) rfl
        have qR_4 := R.out.cell (i := 4) (v := .int .i64 od) rfl
        have rl_R := R.out.lt
        go_wp2_with fail
        clear qR_0 qR_1 qR_2 qR_3 qR_4 rl_R
        refine Calls.mono (rmaye_v _ _ _ _ _ _ HMY.out _) ?_
        rintro e x8 ⟨rfl, hb⟩
        replace X0 := Lib.hid (X0.out.keep hb)
        replace X1 := Lib.hid (X1.out.keep hb)
        replace X2 := Lib.hid (X2.out.keep hb)
        replace R := Lib.hid (R.out.keep hb)
        replace HB := Lib.hid (HB.out.trans (hb.mono HB.out.size))
        clear hb
        go_wp2_with fail
        refine Calls.mono (awake19_c _) ?_
        rintro e x9 ⟨rfl, hb⟩
        replace X0 := Lib.hid (X0.out.keep hb)
        replace X1 := Lib.hid (X1.out.keep hb)
        replace X2 := Lib.hid (X2.out.keep hb)
        replace R := Lib.hid (R.out.keep hb)
        replace HB := Lib.hid (HB.out.trans (hb.mono HB.out.size))
        clear hb
        go_wp2_with fail
        go_ret
        exact ⟨rfl, HB.out⟩
      | true =>
        have qX0_0 := X0.out.cell (i := 0) (v := .int .i64 x) rfl
        have qX0_1 := X0.out.cell (i := 1) (v := .int .i64 y) rfl
        have qX0_2 := X0.out.cell (i := 2) (v := .int .i64 a) rfl
        have qX0_3 := X0.out.cell (i := 3) (v := .int .i64 b) rfl
        have qX0_4 := X0.out.cell (i := 4) (v := .int .i64 d) rfl
        have rl_X0 := X0.out.lt
        have qX2_0 := X2.out.cell (i := 0) (v := .int .i64 p) rfl
        have qX2_1 := X2.out.cell (i := 1) (v := .int .i64 q) rfl
        have rl_X2 := X2.out.lt
        go_wp2_with fail
        clear qX0_0 qX0_1 qX0_2 qX0_3 qX0_4 rl_X0 qX2_0 qX2_1 rl_X2
        refine Calls.mono (ellin_v _ _ _ _ _ _ _ _ H3.out _) ?_
        rintro e x7 ⟨rfl, hb⟩
        replace X0 := Lib.hid (X0.out.keep hb)
        replace X1 := Lib.hid (X1.out.keep hb)
        replace X2 := Lib.hid (X2.out.keep hb)
        replace R := Lib.hid (R.out.keep hb)
        replace HB := Lib.hid (HB.out.trans (hb.mono HB.out.size))
        clear hb
        cases b2 with
        | false =>
          have qR_0 := R.out.cell (i := 0) (v := .int .i64 ox) rfl
          have qR_1 := R.out.cell (i := 1) (v := .int .i64 oy) rfl
          have qR_2 := R.out.cell (i := 2) (v := .int .i64 oa) rfl
          have qR_3 := R.out.cell (i := 3) (v := .int .i64 ob) rfl
          have qR_4 := R.out.cell (i := 4) (v := .int .i64 od) rfl
          have rl_R := R.out.lt
          go_wp2_with fail
          clear qR_0 qR_1 qR_2 qR_3 qR_4 rl_R
          refine Calls.mono (rmaye_v _ _ _ _ _ _ HMY.out _) ?_
          rintro e x8 ⟨rfl, hb⟩
          replace X0 := Lib.hid (X0.out.keep hb)
          replace X1 := Lib.hid (X1.out.keep hb)
          replace X2 := Lib.hid (X2.out.keep hb)
          replace R := Lib.hid (R.out.keep hb)
          replace HB := Lib.hid (HB.out.trans (hb.mono HB.out.size))
          clear hb
          go_wp2_with fail
          refine Calls.mono (awake19_c _) ?_
          rintro e x9 ⟨rfl, hb⟩
          replace X0 := Lib.hid (X0.out.keep hb)
          replace X1 := Lib.hid (X1.out.keep hb)
          replace X2 := Lib.hid (X2.out.keep hb)
          replace R := Lib.hid (R.out.keep hb)
          replace HB := Lib.hid (HB.out.trans (hb.mono HB.out.size))
          clear hb
          go_wp2_with fail
          go_ret
          exact ⟨rfl, HB.out⟩
        | true =>
          obtain rfl : b3 = true := HH.out (by simp) (by simp)
          have qR_0 := R.out.cell (i := 0) (v := .int .i64 ox) rfl
          have qR_1 := R.out.cell (i := 1) (v := .int .i64 oy) rfl
          have qR_2 := R.out.cell (i := 2) (v := .int .i64 oa) rfl
          have qR_3 := R.out.cell (i := 3) (v := .int .i64 ob) rfl
          have qR_4 := R.out.cell (i := 4) (v := .int .i64 od) rfl
          have rl_R := R.out.lt
          have qX2_0 := X2.out.cell (i := 0) (v := .int .i64 p) rfl
          have qX2_1 := X2.out.cell (i := 1) (v := .int .i64 q) rfl
          have rl_X2 := X2.out.lt
          go_wp2_with fail
          clear qR_0 qR_1 qR_2 qR_3 qR_4 rl_R qX2_0 qX2_1 rl_X2
          refine Calls.mono (ellin_v _ _ _ _ _ _ _ _ H4.out _) ?_
          rintro e x8 ⟨rfl, hb⟩
          replace X0 := Lib.hid (X0.out.keep hb)
          replace X1 := Lib.hid (X1.out.keep hb)
          replace X2 := Lib.hid (X2.out.keep hb)
          replace R := Lib.hid (R.out.keep hb)
          replace HB := Lib.hid (HB.out.trans (hb.mono HB.out.size))
          clear hb
          have qR_0 := R.out.cell (i := 0) (v := .int .i64 ox) rfl
          have qR_1 := R.out.cell (i := 1) (v := .int .i64 oy) rfl
          have qR_2 := R.out.cell (i := 2) (v := .int .i64 oa) rfl
          have qR_3 := R.out.cell (i := 3) (v := .int .i64 ob) rfl
          have qR_4 := R.out.cell (i := 4) (v := .int .i64 od) rfl
          have rl_R := R.out.lt
          go_wp2_with fail
          clear qR_0 qR_1 qR_2 qR_3 qR_4 rl_R
          refine Calls.mono (rmaye_v _ _ _ _ _ _ HMY.out _) ?_
          rintro e x9 ⟨rfl, hb⟩
          replace X0 := Lib.hid (X0.out.keep hb)
          replace X1 := Lib.hid (X1.out.keep hb)
          replace X2 := Lib.hid (X2.out.keep hb)
          replace R := Lib.hid (R.out.keep hb)
          replace HB := Lib.hid (HB.out.trans (hb.mono HB.out.size))
          clear hb
          go_wp2_with fail
          refine Calls.mono (awake19_c _) ?_
          rintro e x10 ⟨rfl, hb⟩
          replace X0 := Lib.hid (X0.out.keep hb)
          replace X1 := Lib.hid (X1.out.keep hb)
          replace X2 := Lib.hid (X2.out.keep hb)
          replace R := Lib.hid (R.out.keep hb)
          replace HB := Lib.hid (HB.out.trans (hb.mono HB.out.size))
          clear hb
          go_wp2_with fail
          go_ret
          exact ⟨rfl, HB.out⟩
end Go.Proofs.YtilginoibhfeiaaGreat
