/- The document's Root; the walk of StripHolds. -/
import Derived.Test.YtilginoibhfeiaaGreatV7
import Derived.Test.YtilginoibhfeiaaGreatHA
import Derived.Test.YtilginoibhfeiaaGreatVB
import Derived.Test.YtilginoibhfeiaaGreatRq
import Derived.Lib.QuietBelow
namespace Go.Proofs.YtilginoibhfeiaaGreat
open Go.RowKit

set_option maxRecDepth 100000 in
theorem rroot_v (n D : Int) (h : rtI n = D) (hn : -9223372036854775808 ≤ n ∧ n ≤ 9223372036854775807) (w : World) :
    Calls Tryz.prog 19 #[.int .i64 n] w fun e w' => e = .returned (.int .i64 D) ∧ Below w.heap.size w w' := by
  have HH : Hid (((rt n.toNat : Nat) : Int) = D) := h
  have HN := Lib.hid hn
  clear h hn
  go_enter Tryz.func19, Tryz.ntmps19
  go_wp2_with fail
  refine (isqrtB_r n HN.out.1 HN.out.2 _).mono ?_
  rw [HH.out]
  rintro e w1 ⟨rfl, hb1⟩
  go_wp2_with fail
  go_ret
  exact ⟨rfl, hb1⟩
/-- A distance that is told, off by no more than is told. -/
theorem told_of (e n : El) (p q p' q' s1 s2 D lo hi : Int) (he : e.has p q = true) (hn : n.has p' q' = true) (h1 : 0 ≤ s1) (h2 : 0 ≤ s2) (hD : rtI ((p - p') * (p - p') + (q - q') * (q - q')) = D) (hlo : max 0 (D - s1) = lo) (hhi : D + 1 + s2 = hi) (hm : hi ≤ 4194304) : Told e n p q p' q' lo hi := by
  have a1 := int_sq_nonneg (p - p')
  have a2 := int_sq_nonneg (q - q')
  have r := rtI_spec ((p - p') * (p - p') + (q - q') * (q - q')) (by omega)
  rw [hD] at r
  subst hlo; subst hhi
  refine ⟨he, hn, ?_, ?_, (mayRange_iff _ _).2 (by omega)⟩
  · have := sq_le_sq' (a := max 0 (D - s1)) (b := D) (by omega) (by omega); omega
  · have := sq_le_sq' (a := D + 1) (b := D + 1 + s2) (by omega) (by omega); omega
theorem pts_close (e n : El) (p q p' q' : Int) (he : e.has p q = true) (hn : n.has p' q' = true) : (-33554432 ≤ p - p' ∧ p - p' ≤ 33554432) ∧ (-33554432 ≤ q - q' ∧ q - q' ≤ 33554432) := by
  have h1 := El.near e p q he
  have h2 := El.near n p' q' hn
  have m1 := ((El.may_iff e).1 ((El.has_iff _ _ _).1 he).1).1
  have m2 := ((El.may_iff n).1 ((El.has_iff _ _ _).1 hn).1).1
  omega
theorem acq_holds {e n : El} {p q p' q' lo hi : Int} (t : Told e n p q p' q' lo hi) {a : El} {k : Int} (h : acqE n hi = (a, k)) : k = 2 ∨ (k = 0 ∧ a.has p q = true) := by
  have r := (mayRange_iff _ _).1 t.hr
  have hm := ((El.has_iff _ _ _).1 t.hn).1
  unfold acqE at h
  rw [if_pos ⟨hm, by omega, by omega⟩] at h
  split at h
  · injection h with h1 h2; exact .inl h2.symm
  · rename_i hfar
    have rl := rad_nat n
    have pm := (mayPt_iff _ _).2 ((El.may_iff _).1 hm).1
    have hb : ballE n.x n.y (max 1 (hi + n.rad)) = (⟨n.x, n.y, max 1 (hi + n.rad) * max 1 (hi + n.rad), 0, max 1 (hi + n.rad) * max 1 (hi + n.rad)⟩, 0) := by
      unfold ballE; rw [if_pos ⟨pm, by omega, by omega⟩]
    rw [hb] at h
    injection h with h1 h2
    refine .inr ⟨h2.symm, ?_⟩
    rw [← h1]
    have hf := told_far t
    have hs := sq_le_sq' (a := hi + n.rad) (b := max 1 (hi + n.rad)) (by omega) (by omega)
    have := ball_has n.x n.y (max 1 (hi + n.rad)) (p - n.x) (q - n.y) pm (by omega) (by omega) (by omega)
    rwa [show n.x + (p - n.x) = p by omega, show n.y + (q - n.y) = q by omega] at this
theorem ring_same (e n : El) (lo hi : Int) (he : e.may = true) (hn : n.may = true) (hr : mayRange lo hi = true) (h : e.x - n.x = 0 ∧ e.y - n.y = 0) : ringE e n lo hi = (⟨0, 0, 0, 0, 0, 0⟩, 7) := by
  unfold ringE; rw [if_pos ⟨he, hn, hr⟩, if_pos h]
theorem rem_of (k : Int) : 0 ≤ (IntKind.u64.wrap k).tmod 1000 ∧ (IntKind.u64.wrap k).tmod 1000 < 1000 := by
  have h : 0 ≤ IntKind.u64.wrap k := by rw [IntKind.wrap_u64]; exact Int.emod_nonneg _ (by decide)
  exact ⟨Int.tmod_nonneg _ h, Int.tmod_lt_of_pos _ (by decide)⟩
set_option maxRecDepth 100000 in
set_option maxHeartbeats 16000000 in
theorem stripHolds_c (x y a b d x' y' a' b' d' p q p' q' be ab : Int) (w : World) :
    Calls Tryz.prog 4 #[elC x y a b d, elC x' y' a' b' d', ptV p q, ptV p' q', .int .i64 be, .int .i64 ab] w fun e w' => e = .returned (.bool true) ∧ Below w.heap.size w w' := by
  cases h1 : El.has ⟨x, y, a, b, d⟩ p q with
  | false =>
    have H1 := Lib.hid h1
    clear h1
    go_enter Tryz.func4, Tryz.ntmps4
    go_wp2_with fail
    obtain ⟨u0, hu0⟩ : ∃ u, u = ((((w).alloc (Obj.cells #[.int .i64 x, .int .i64 y, .int .i64 a, .int .i64 b, .int .i64 d] 27)).alloc (Obj.cells #[.int .i64 x', .int .i64 y', .int .i64 a', .int .i64 b', .int .i64 d'] 27)).alloc (Obj.cells #[.int .i64 p, .int .i64 q] 23)).alloc (Obj.cells #[.int .i64 p', .int .i64 q'] 23) := ⟨_, rfl⟩
    rw [← hu0]
    have HB : Hid (Below w.heap.size w u0) := by rw [hu0]; show Below w.heap.size w _; exact below_byR
    have X0 : Hid (Blk u0 (w.heap.size) #[.int .i64 x, .int .i64 y, .int .i64 a, .int .i64 b, .int .i64 d] 27) := by rw [hu0]; exact (((Blk.new' _ _ _ (by simp)).alloc _).alloc _).alloc _
    have X1 : Hid (Blk u0 (w.heap.size + 1) #[.int .i64 x', .int .i64 y', .int .i64 a', .int .i64 b', .int .i64 d'] 27) := by rw [hu0]; exact ((Blk.new' _ _ _ (by simp)).alloc _).alloc _
    have X2 : Hid (Blk u0 (w.heap.size + 1 + 1) #[.int .i64 p, .int .i64 q] 23) := by rw [hu0]; exact (Blk.new' _ _ _ (by simp)).alloc _
    have X3 : Hid (Blk u0 (w.heap.size + 1 + 1 + 1) #[.int .i64 p', .int .i64 q'] 23) := by rw [hu0]; exact Blk.new' _ _ _ (by simp)
    clear hu0
    refine Calls.mono (ellin_v _ _ _ _ _ _ _ _ H1.out _) ?_
    rintro e x1 ⟨rfl, hb⟩
    replace X0 := Lib.hid (X0.out.keep hb)
    replace X1 := Lib.hid (X1.out.keep hb)
    replace X2 := Lib.hid (X2.out.keep hb)
    replace X3 := Lib.hid (X3.out.keep hb)
    replace HB := Lib.hid (HB.out.trans (hb.mono HB.out.size))
    clear hb
    go_wp2_with fail
    refine Calls.mono (awake8_c _) ?_
    rintro e x2 ⟨rfl, hb⟩
    replace X0 := Lib.hid (X0.out.keep hb)
    replace X1 := Lib.hid (X1.out.keep hb)
    replace X2 := Lib.hid (X2.out.keep hb)
    replace X3 := Lib.hid (X3.out.keep hb)
    replace HB := Lib.hid (HB.out.trans (hb.mono HB.out.size))
    clear hb
    go_wp2_with fail
    go_ret
    exact ⟨rfl, HB.out⟩
  | true =>
    have H1 := Lib.hid h1
    cases h2 : El.has ⟨x', y', a', b', d'⟩ p' q' with
    | false =>
      have H2 := Lib.hid h2
      clear h1 h2
      go_enter Tryz.func4, Tryz.ntmps4
      go_wp2_with fail
      obtain ⟨u0, hu0⟩ : ∃ u, u = ((((w).alloc (Obj.cells #[.int .i64 x, .int .i64 y, .int .i64 a, .int .i64 b, .int .i64 d] 27)).alloc (Obj.cells #[.int .i64 x', .int .i64 y', .int .i64 a', .int .i64 b', .int .i64 d'] 27)).alloc (Obj.cells #[.int .i64 p, .int .i64 q] 23)).alloc (Obj.cells #[.int .i64 p', .int .i64 q'] 23) := ⟨_, rfl⟩
      rw [← hu0]
      have HB : Hid (Below w.heap.size w u0) := by rw [hu0]; show Below w.heap.size w _; exact below_byR
      have X0 : Hid (Blk u0 (w.heap.size) #[.int .i64 x, .int .i64 y, .int .i64 a, .int .i64 b, .int .i64 d] 27) := by rw [hu0]; exact (((Blk.new' _ _ _ (by simp)).alloc _).alloc _).alloc _
      have X1 : Hid (Blk u0 (w.heap.size + 1) #[.int .i64 x', .int .i64 y', .int .i64 a', .int .i64 b', .int .i64 d'] 27) := by rw [hu0]; exact ((Blk.new' _ _ _ (by simp)).alloc _).alloc _
      have X2 : Hid (Blk u0 (w.heap.size + 1 + 1) #[.int .i64 p, .int .i64 q] 23) := by rw [hu0]; exact (Blk.new' _ _ _ (by simp)).alloc _
      have X3 : Hid (Blk u0 (w.heap.size + 1 + 1 + 1) #[.int .i64 p', .int .i64 q'] 23) := by rw [hu0]; exact Blk.new' _ _ _ (by simp)
      clear hu0
      refine Calls.mono (ellin_v _ _ _ _ _ _ _ _ H1.out _) ?_
      rintro e x1 ⟨rfl, hb⟩
      replace X0 := Lib.hid (X0.out.keep hb)
      replace X1 := Lib.hid (X1.out.keep hb)
      replace X2 := Lib.hid (X2.out.keep hb)
      replace X3 := Lib.hid (X3.out.keep hb)
      replace HB := Lib.hid (HB.out.trans (hb.mono HB.out.size))
      clear hb
      have qX1_0 := X1.out.cell (i := 0) (v := .int .i64 x') rfl
      have qX1_1 := X1.out.cell (i := 1) (v := .int .i64 y') rfl
      have qX1_2 := X1.out.cell (i := 2) (v := .int .i64 a') rfl
      have qX1_3 := X1.out.cell (i := 3) (v := .int .i64 b') rfl
      have qX1_4 := X1.out.cell (i := 4) (v := .int .i64 d') rfl
      have rl_X1 := X1.out.lt
      have qX3_0 := X3.out.cell (i := 0) (v := .int .i64 p') rfl
      have qX3_1 := X3.out.cell (i := 1) (v := .int .i64 q') rfl
      have rl_X3 := X3.out.lt
      go_wp2_with fail
      clear qX1_0 qX1_1 qX1_2 qX1_3 qX1_4 rl_X1 qX3_0 qX3_1 rl_X3
      refine Calls.mono (ellin_v _ _ _ _ _ _ _ _ H2.out _) ?_
      rintro e x2 ⟨rfl, hb⟩
      replace X0 := Lib.hid (X0.out.keep hb)
      replace X1 := Lib.hid (X1.out.keep hb)
      replace X2 := Lib.hid (X2.out.keep hb)
      replace X3 := Lib.hid (X3.out.keep hb)
      replace HB := Lib.hid (HB.out.trans (hb.mono HB.out.size))
      clear hb
      go_wp2_with fail
      refine Calls.mono (awake8_c _) ?_
      rintro e x3 ⟨rfl, hb⟩
      replace X0 := Lib.hid (X0.out.keep hb)
      replace X1 := Lib.hid (X1.out.keep hb)
      replace X2 := Lib.hid (X2.out.keep hb)
      replace X3 := Lib.hid (X3.out.keep hb)
      replace HB := Lib.hid (HB.out.trans (hb.mono HB.out.size))
      clear hb
      go_wp2_with fail
      go_ret
      exact ⟨rfl, HB.out⟩
    | true =>
      have H2 := Lib.hid h2
      obtain ⟨⟨n1, n2⟩, n3, n4⟩ := pts_close _ _ p q p' q' h1 h2
      have PB := ((El.has_iff _ _ _).1 h1).2.1
      obtain ⟨s1, hs1⟩ : ∃ K, (IntKind.u64.wrap be).tmod 1000 = K := ⟨_, rfl⟩
      obtain ⟨r1, r2⟩ : 0 ≤ s1 ∧ s1 < 1000 := by rw [← hs1]; exact rem_of be
      obtain ⟨s2, hs2⟩ : ∃ K, (IntKind.u64.wrap ab).tmod 1000 = K := ⟨_, rfl⟩
      obtain ⟨r3, r4⟩ : 0 ≤ s2 ∧ s2 < 1000 := by rw [← hs2]; exact rem_of ab
      obtain ⟨D, hD⟩ : ∃ D, rtI ((p - p') * (p - p') + (q - q') * (q - q')) = D := ⟨_, rfl⟩
      obtain ⟨lo, hlo⟩ : ∃ K, max 0 (D - s1) = K := ⟨_, rfl⟩
      obtain ⟨hi, hhi⟩ : ∃ K, D + 1 + s2 = K := ⟨_, rfl⟩
      have told := fun (hm : hi ≤ 4194304) => told_of _ _ p q p' q' s1 s2 D lo hi h1 h2 r1 r3 hD hlo hhi hm
      have a1 := int_sq_nonneg (p - p')
      have a2 := int_sq_nonneg (q - q')
      have a3 : (p - p') * (p - p') ≤ 33554432 * 33554432 := (sqb (p - p') 33554432 (by omega) (by omega)).2
      have a4 : (q - q') * (q - q') ≤ 33554432 * 33554432 := (sqb (q - q') 33554432 (by omega) (by omega)).2
      obtain ⟨dx, hdx⟩ : ∃ K, p - p' = K := ⟨_, rfl⟩
      obtain ⟨dy, hdy⟩ : ∃ K, q - q' = K := ⟨_, rfl⟩
      rw [hdx] at n1 n2 a1 a3 hD
      rw [hdy] at n3 n4 a2 a4 hD
      have wx : IntKind.i64.wrap dx = dx := by rw [IntKind.wrap_i64]; omega
      have wy : IntKind.i64.wrap dy = dy := by rw [IntKind.wrap_i64]; omega
      obtain ⟨m1, hm1⟩ : ∃ K, dx * dx = K := ⟨_, rfl⟩
      obtain ⟨m2, hm2⟩ : ∃ K, dy * dy = K := ⟨_, rfl⟩
      rw [hm1] at a1 a3 hD
      rw [hm2] at a2 a4 hD
      obtain ⟨S, hS⟩ : ∃ K, m1 + m2 = K := ⟨_, rfl⟩
      rw [hS] at hD
      have HD := Lib.hid hD
      have SB : 0 ≤ S ∧ S ≤ 2251799813685248 := by omega
      have HSB : Hid (-9223372036854775808 ≤ S ∧ S ≤ 9223372036854775807) := ⟨by omega, by omega⟩
      have DB : 0 ≤ D ∧ D ≤ 67108864 := by
        have h3 := rtI_spec S SB.1
        rw [hD] at h3
        rcases rtI_lt S 67108864 (by decide) (by omega) with h4 | h4
        · rw [hD] at h4; omega
        · omega
      obtain ⟨D0, D1⟩ := DB
      have lo0 : 0 ≤ lo ∧ lo ≤ 67108864 := by omega
      have hi0 : 0 ≤ hi ∧ hi ≤ 67109864 := by omega
      obtain ⟨lo1, lo2⟩ := lo0
      obtain ⟨hi1, hi2⟩ := hi0
      have HS1 := Lib.hid hs1
      have HS2 := Lib.hid hs2
      have HLO := Lib.hid hlo
      have HHI := Lib.hid hhi
      have wl : IntKind.i64.wrap (D - s1) = D - s1 := by rw [IntKind.wrap_i64]; omega
      have HPB := Lib.hid PB
      have HTOLD := Lib.hid told
      have w1 : wrap64 m1 = m1 := by unfold wrap64; omega
      have w2 : wrap64 m2 = m2 := by unfold wrap64; omega
      have w3 : wrap64 S = S := by unfold wrap64; omega
      have d1 : decide (dx < -1073741824) = false := decide_eq_false (by omega)
      have d2 : decide (1073741824 < dx) = false := decide_eq_false (by omega)
      have d3 : decide (dy < -1073741824) = false := decide_eq_false (by omega)
      have d4 : decide (1073741824 < dy) = false := decide_eq_false (by omega)
      have HW := Lib.hid (And.intro w1 (And.intro w2 w3))
      clear SB hD hs1 hs2 hlo hhi wl PB told w1 w2 w3
      by_cases hbig : 4194304 < hi
      · clear h1 h2
        go_enter Tryz.func4, Tryz.ntmps4
        go_wp2_with fail
        obtain ⟨u0, hu0⟩ : ∃ u, u = ((((w).alloc (Obj.cells #[.int .i64 x, .int .i64 y, .int .i64 a, .int .i64 b, .int .i64 d] 27)).alloc (Obj.cells #[.int .i64 x', .int .i64 y', .int .i64 a', .int .i64 b', .int .i64 d'] 27)).alloc (Obj.cells #[.int .i64 p, .int .i64 q] 23)).alloc (Obj.cells #[.int .i64 p', .int .i64 q'] 23) := ⟨_, rfl⟩
        rw [← hu0]
        have HB : Hid (Below w.heap.size w u0) := by rw [hu0]; show Below w.heap.size w _; exact below_byR
        have X0 : Hid (Blk u0 (w.heap.size) #[.int .i64 x, .int .i64 y, .int .i64 a, .int .i64 b, .int .i64 d] 27) := by rw [hu0]; exact (((Blk.new' _ _ _ (by simp)).alloc _).alloc _).alloc _
        have X1 : Hid (Blk u0 (w.heap.size + 1) #[.int .i64 x', .int .i64 y', .int .i64 a', .int .i64 b', .int .i64 d'] 27) := by rw [hu0]; exact ((Blk.new' _ _ _ (by simp)).alloc _).alloc _
        have X2 : Hid (Blk u0 (w.heap.size + 1 + 1) #[.int .i64 p, .int .i64 q] 23) := by rw [hu0]; exact (Blk.new' _ _ _ (by simp)).alloc _
        have X3 : Hid (Blk u0 (w.heap.size + 1 + 1 + 1) #[.int .i64 p', .int .i64 q'] 23) := by rw [hu0]; exact Blk.new' _ _ _ (by simp)
        clear hu0
        refine Calls.mono (ellin_v _ _ _ _ _ _ _ _ H1.out _) ?_
        rintro e x1 ⟨rfl, hb⟩
        replace X0 := Lib.hid (X0.out.keep hb)
        replace X1 := Lib.hid (X1.out.keep hb)
        replace X2 := Lib.hid (X2.out.keep hb)
        replace X3 := Lib.hid (X3.out.keep hb)
        replace HB := Lib.hid (HB.out.trans (hb.mono HB.out.size))
        clear hb
        have qX1_0 := X1.out.cell (i := 0) (v := .int .i64 x') rfl
        have qX1_1 := X1.out.cell (i := 1) (v := .int .i64 y') rfl
        have qX1_2 := X1.out.cell (i := 2) (v := .int .i64 a') rfl
        have qX1_3 := X1.out.cell (i := 3) (v := .int .i64 b') rfl
        have qX1_4 := X1.out.cell (i := 4) (v := .int .i64 d') rfl
        have rl_X1 := X1.out.lt
        have qX3_0 := X3.out.cell (i := 0) (v := .int .i64 p') rfl
        have qX3_1 := X3.out.cell (i := 1) (v := .int .i64 q') rfl
        have rl_X3 := X3.out.lt
        go_wp2_with fail
        clear qX1_0 qX1_1 qX1_2 qX1_3 qX1_4 rl_X1 qX3_0 qX3_1 rl_X3
        refine Calls.mono (ellin_v _ _ _ _ _ _ _ _ H2.out _) ?_
        rintro e x2 ⟨rfl, hb⟩
        replace X0 := Lib.hid (X0.out.keep hb)
        replace X1 := Lib.hid (X1.out.keep hb)
        replace X2 := Lib.hid (X2.out.keep hb)
        replace X3 := Lib.hid (X3.out.keep hb)
        replace HB := Lib.hid (HB.out.trans (hb.mono HB.out.size))
        clear hb
        go_wp2_with fail
        have qX2_0 := cell_regrown (X2.out.cell (i := 0) (v := .int .i64 p) rfl)
        have qX2_1 := cell_regrown (X2.out.cell (i := 1) (v := .int .i64 q) rfl)
        have qX3_0 := cell_regrown (X3.out.cell (i := 0) (v := .int .i64 p') rfl)
        have qX3_1 := cell_regrown (X3.out.cell (i := 1) (v := .int .i64 q') rfl)
        refine wp_region_quiet_below (by kernel_rfl) (by kernel_rfl) ?_
        repeat (go_big_quiet_step (fail))
        refine wpQuiet_nil ?_
        intro x3 hw
        have hb := below_of_regrown hw
        clear hw qX2_0 qX2_1 qX3_0 qX3_1
        replace X0 := Lib.hid (X0.out.keep hb)
        replace X1 := Lib.hid (X1.out.keep hb)
        replace X2 := Lib.hid (X2.out.keep hb)
        replace X3 := Lib.hid (X3.out.keep hb)
        replace HB := Lib.hid (HB.out.trans (hb.mono HB.out.size))
        clear hb
        go_wp2_with fail
        refine Calls.mono (rroot_v _ _ HD.out HSB.out _) ?_
        rintro e x4 ⟨rfl, hb⟩
        replace X0 := Lib.hid (X0.out.keep hb)
        replace X1 := Lib.hid (X1.out.keep hb)
        replace X2 := Lib.hid (X2.out.keep hb)
        replace X3 := Lib.hid (X3.out.keep hb)
        replace HB := Lib.hid (HB.out.trans (hb.mono HB.out.size))
        clear hb
        have hs1 := HS1.out
        have hs2 := HS2.out
        have hlo := HLO.out
        have hhi := HHI.out
        clear hS hm1 hm2 hdx hdy wx wy a1 a2 a3 a4 n1 n2 n3 n4 d1 d2 d3 d4
        go_wp2_with fail
        clear hs1 hs2 hlo hhi
        refine Calls.mono (awake8_c _) ?_
        rintro e x5 ⟨rfl, hb⟩
        replace X0 := Lib.hid (X0.out.keep hb)
        replace X1 := Lib.hid (X1.out.keep hb)
        replace X2 := Lib.hid (X2.out.keep hb)
        replace X3 := Lib.hid (X3.out.keep hb)
        replace HB := Lib.hid (HB.out.trans (hb.mono HB.out.size))
        clear hb
        go_wp2_with fail
        go_ret
        exact ⟨rfl, HB.out⟩
      · have T := HTOLD.out (by omega)
        have PB := HPB.out
        have em := ((El.has_iff _ _ _).1 h1).1
        have nm := ((El.has_iff _ _ _).1 h2).1
        obtain ⟨⟨o1, o2, o3, o4, o5⟩, hu, hup⟩ := upd_holds T
        have HU := Lib.hid hu
        have HUP := Lib.hid hup
        obtain ⟨⟨c1, c2, c3, c4, c5⟩, k, hc⟩ : ∃ o k, acqE ⟨x', y', a', b', d'⟩ hi = (o, k) := ⟨_, _, rfl⟩
        have HC := Lib.hid hc
        have ac := acq_holds T hc
        clear h1 h2 hu hup hc
        by_cases hsame : x - x' = 0 ∧ y - y' = 0
        · have hr := ring_same ⟨x, y, a, b, d⟩ ⟨x', y', a', b', d'⟩ lo hi em nm T.hr hsame
          have HR := Lib.hid hr
          clear hr hsame em nm T
          go_enter Tryz.func4, Tryz.ntmps4
          go_wp2_with fail
          obtain ⟨u0, hu0⟩ : ∃ u, u = ((((w).alloc (Obj.cells #[.int .i64 x, .int .i64 y, .int .i64 a, .int .i64 b, .int .i64 d] 27)).alloc (Obj.cells #[.int .i64 x', .int .i64 y', .int .i64 a', .int .i64 b', .int .i64 d'] 27)).alloc (Obj.cells #[.int .i64 p, .int .i64 q] 23)).alloc (Obj.cells #[.int .i64 p', .int .i64 q'] 23) := ⟨_, rfl⟩
          rw [← hu0]
          have HB : Hid (Below w.heap.size w u0) := by rw [hu0]; show Below w.heap.size w _; exact below_byR
          have X0 : Hid (Blk u0 (w.heap.size) #[.int .i64 x, .int .i64 y, .int .i64 a, .int .i64 b, .int .i64 d] 27) := by rw [hu0]; exact (((Blk.new' _ _ _ (by simp)).alloc _).alloc _).alloc _
          have X1 : Hid (Blk u0 (w.heap.size + 1) #[.int .i64 x', .int .i64 y', .int .i64 a', .int .i64 b', .int .i64 d'] 27) := by rw [hu0]; exact ((Blk.new' _ _ _ (by simp)).alloc _).alloc _
          have X2 : Hid (Blk u0 (w.heap.size + 1 + 1) #[.int .i64 p, .int .i64 q] 23) := by rw [hu0]; exact (Blk.new' _ _ _ (by simp)).alloc _
          have X3 : Hid (Blk u0 (w.heap.size + 1 + 1 + 1) #[.int .i64 p', .int .i64 q'] 23) := by rw [hu0]; exact Blk.new' _ _ _ (by simp)
          clear hu0
          refine Calls.mono (ellin_v _ _ _ _ _ _ _ _ H1.out _) ?_
          rintro e x1 ⟨rfl, hb⟩
          replace X0 := Lib.hid (X0.out.keep hb)
          replace X1 := Lib.hid (X1.out.keep hb)
          replace X2 := Lib.hid (X2.out.keep hb)
          replace X3 := Lib.hid (X3.out.keep hb)
          replace HB := Lib.hid (HB.out.trans (hb.mono HB.out.size))
          clear hb
          have qX1_0 := X1.out.cell (i := 0) (v := .int .i64 x') rfl
          have qX1_1 := X1.out.cell (i := 1) (v := .int .i64 y') rfl
          have qX1_2 := X1.out.cell (i := 2) (v := .int .i64 a') rfl
          have qX1_3 := X1.out.cell (i := 3) (v := .int .i64 b') rfl
          have qX1_4 := X1.out.cell (i := 4) (v := .int .i64 d') rfl
          have rl_X1 := X1.out.lt
          have qX3_0 := X3.out.cell (i := 0) (v := .int .i64 p') rfl
          have qX3_1 := X3.out.cell (i := 1) (v := .int .i64 q') rfl
          have rl_X3 := X3.out.lt
          go_wp2_with fail
          clear qX1_0 qX1_1 qX1_2 qX1_3 qX1_4 rl_X1 qX3_0 qX3_1 rl_X3
          refine Calls.mono (ellin_v _ _ _ _ _ _ _ _ H2.out _) ?_
          rintro e x2 ⟨rfl, hb⟩
          replace X0 := Lib.hid (X0.out.keep hb)
          replace X1 := Lib.hid (X1.out.keep hb)
          replace X2 := Lib.hid (X2.out.keep hb)
          replace X3 := Lib.hid (X3.out.keep hb)
          replace HB := Lib.hid (HB.out.trans (hb.mono HB.out.size))
          clear hb
          go_wp2_with fail
          have qX2_0 := cell_regrown (X2.out.cell (i := 0) (v := .int .i64 p) rfl)
          have qX2_1 := cell_regrown (X2.out.cell (i := 1) (v := .int .i64 q) rfl)
          have qX3_0 := cell_regrown (X3.out.cell (i := 0) (v := .int .i64 p') rfl)
          have qX3_1 := cell_regrown (X3.out.cell (i := 1) (v := .int .i64 q') rfl)
          refine wp_region_quiet_below (by kernel_rfl) (by kernel_rfl) ?_
          repeat (go_big_quiet_step (fail))
          refine wpQuiet_nil ?_
          intro x3 hw
          have hb := below_of_regrown hw
          clear hw qX2_0 qX2_1 qX3_0 qX3_1
          replace X0 := Lib.hid (X0.out.keep hb)
          replace X1 := Lib.hid (X1.out.keep hb)
          replace X2 := Lib.hid (X2.out.keep hb)
          replace X3 := Lib.hid (X3.out.keep hb)
          replace HB := Lib.hid (HB.out.trans (hb.mono HB.out.size))
          clear hb
          go_wp2_with fail
          refine Calls.mono (rroot_v _ _ HD.out HSB.out _) ?_
          rintro e x4 ⟨rfl, hb⟩
          replace X0 := Lib.hid (X0.out.keep hb)
          replace X1 := Lib.hid (X1.out.keep hb)
          replace X2 := Lib.hid (X2.out.keep hb)
          replace X3 := Lib.hid (X3.out.keep hb)
          replace HB := Lib.hid (HB.out.trans (hb.mono HB.out.size))
          clear hb
          have hs1 := HS1.out
          have hs2 := HS2.out
          have hlo := HLO.out
          have hhi := HHI.out
          clear hS hm1 hm2 hdx hdy wx wy a1 a2 a3 a4 n1 n2 n3 n4 d1 d2 d3 d4
          have qX0_0 := X0.out.cell (i := 0) (v := .int .i64 x) rfl
          have qX0_1 := X0.out.cell (i := 1) (v := .int .i64 y) rfl
          have qX0_2 := X0.out.cell (i := 2) (v := .int .i64 a) rfl
          have qX0_3 := X0.out.cell (i := 3) (v := .int .i64 b) rfl
          have qX0_4 := X0.out.cell (i := 4) (v := .int .i64 d) rfl
          have rl_X0 := X0.out.lt
          have qX1_0 := X1.out.cell (i := 0) (v := .int .i64 x') rfl
          have qX1_1 := X1.out.cell (i := 1) (v := .int .i64 y') rfl
          have qX1_2 := X1.out.cell (i := 2) (v := .int .i64 a') rfl
          have qX1_3 := X1.out.cell (i := 3) (v := .int .i64 b') rfl
          have qX1_4 := X1.out.cell (i := 4) (v := .int .i64 d') rfl
          have rl_X1 := X1.out.lt
          go_wp2_with fail
          clear hs1 hs2 hlo hhi qX0_0 qX0_1 qX0_2 qX0_3 qX0_4 rl_X0 qX1_0 qX1_1 qX1_2 qX1_3 qX1_4 rl_X1
          refine Calls.mono (ring_v _ _ _ _ _ _ _ _ _ _ _ _ _ _ _ _ _ _ _ HR.out _) ?_
          rintro e x5 ⟨rfl, hb⟩
          replace X0 := Lib.hid (X0.out.keep hb)
          replace X1 := Lib.hid (X1.out.keep hb)
          replace X2 := Lib.hid (X2.out.keep hb)
          replace X3 := Lib.hid (X3.out.keep hb)
          replace HB := Lib.hid (HB.out.trans (hb.mono HB.out.size))
          clear hb
          have qX0_0 := X0.out.cell (i := 0) (v := .int .i64 x) rfl
          have qX0_1 := X0.out.cell (i := 1) (v := .int .i64 y) rfl
          have qX0_2 := X0.out.cell (i := 2) (v := .int .i64 a) rfl
          have qX0_3 := X0.out.cell (i := 3) (v := .int .i64 b) rfl
          have qX0_4 := X0.out.cell (i := 4) (v := .int .i64 d) rfl
          have rl_X0 := X0.out.lt
          have qX1_0 := X1.out.cell (i := 0) (v := .int .i64 x') rfl
          have qX1_1 := X1.out.cell (i := 1) (v := .int .i64 y') rfl
          have qX1_2 := X1.out.cell (i := 2) (v := .int .i64 a') rfl
          have qX1_3 := X1.out.cell (i := 3) (v := .int .i64 b') rfl
          have qX1_4 := X1.out.cell (i := 4) (v := .int .i64 d') rfl
          have rl_X1 := X1.out.lt
          go_wp2_with fail
          clear qX0_0 qX0_1 qX0_2 qX0_3 qX0_4 rl_X0 qX1_0 qX1_1 qX1_2 qX1_3 qX1_4 rl_X1
          obtain ⟨u6, hu⟩ : ∃ u, u = x5.alloc (Obj.cells #[.int .i64 0, .int .i64 0, .int .i64 0, .int .i64 0, .int .i64 0, .int .i64 0] 39) := ⟨_, rfl⟩
          rw [← hu]
          obtain ⟨gS, hg⟩ : ∃ g, x5.heap.size = g := ⟨_, rfl⟩
          have gw_gS : w.heap.size ≤ gS := by rw [← hg]; exact HB.out.size
          have hb : Below x5.heap.size x5 u6 := by rw [hu]; exact (Below.refl _ _).alloc (Nat.le_refl _) _
          replace X0 := Lib.hid (X0.out.keep hb)
          replace X1 := Lib.hid (X1.out.keep hb)
          replace X2 := Lib.hid (X2.out.keep hb)
          replace X3 := Lib.hid (X3.out.keep hb)
          replace HB := Lib.hid (HB.out.trans (hb.mono HB.out.size))
          clear hb
          have S : Hid (Blk u6 gS #[.int .i64 0, .int .i64 0, .int .i64 0, .int .i64 0, .int .i64 0, .int .i64 0] 39) := by rw [hu, ← hg]; exact Blk.new _ _ _
          rw [hg]
          clear hu hg
          refine Calls.mono (upd_v _ _ _ _ _ _ _ _ _ _ _ _ _ _ _ _ _ _ HU.out _) ?_
          rintro e x7 ⟨rfl, hb⟩
          replace X0 := Lib.hid (X0.out.keep hb)
          replace X1 := Lib.hid (X1.out.keep hb)
          replace X2 := Lib.hid (X2.out.keep hb)
          replace X3 := Lib.hid (X3.out.keep hb)
          replace S := Lib.hid (S.out.keep hb)
          replace HB := Lib.hid (HB.out.trans (hb.mono HB.out.size))
          clear hb
          have qX1_0 := X1.out.cell (i := 0) (v := .int .i64 x') rfl
          have qX1_1 := X1.out.cell (i := 1) (v := .int .i64 y') rfl
          have qX1_2 := X1.out.cell (i := 2) (v := .int .i64 a') rfl
          have qX1_3 := X1.out.cell (i := 3) (v := .int .i64 b') rfl
          have qX1_4 := X1.out.cell (i := 4) (v := .int .i64 d') rfl
          have rl_X1 := X1.out.lt
          go_wp2_with fail
          clear qX1_0 qX1_1 qX1_2 qX1_3 qX1_4 rl_X1
          obtain ⟨u8, hu⟩ : ∃ u, u = x7.alloc (Obj.cells #[.int .i64 o1, .int .i64 o2, .int .i64 o3, .int .i64 o4, .int .i64 o5] 27) := ⟨_, rfl⟩
          rw [← hu]
          obtain ⟨gU, hg⟩ : ∃ g, x7.heap.size = g := ⟨_, rfl⟩
          have gw_gU : w.heap.size ≤ gU := by rw [← hg]; exact HB.out.size
          have hb : Below x7.heap.size x7 u8 := by rw [hu]; exact (Below.refl _ _).alloc (Nat.le_refl _) _
          replace X0 := Lib.hid (X0.out.keep hb)
          replace X1 := Lib.hid (X1.out.keep hb)
          replace X2 := Lib.hid (X2.out.keep hb)
          replace X3 := Lib.hid (X3.out.keep hb)
          replace S := Lib.hid (S.out.keep hb)
          replace HB := Lib.hid (HB.out.trans (hb.mono HB.out.size))
          clear hb
          have U : Hid (Blk u8 gU #[.int .i64 o1, .int .i64 o2, .int .i64 o3, .int .i64 o4, .int .i64 o5] 27) := by rw [hu, ← hg]; exact Blk.new _ _ _
          rw [hg]
          clear hu hg
          refine Calls.mono (acq_v _ _ _ _ _ _ _ _ _ _ _ _ HC.out _) ?_
          rintro e x9 ⟨rfl, hb⟩
          replace X0 := Lib.hid (X0.out.keep hb)
          replace X1 := Lib.hid (X1.out.keep hb)
          replace X2 := Lib.hid (X2.out.keep hb)
          replace X3 := Lib.hid (X3.out.keep hb)
          replace S := Lib.hid (S.out.keep hb)
          replace U := Lib.hid (U.out.keep hb)
          replace HB := Lib.hid (HB.out.trans (hb.mono HB.out.size))
          clear hb
          rcases ac with rfl | ⟨rfl, hac⟩
          · have qU_0 := U.out.cell (i := 0) (v := .int .i64 o1) rfl
            have qU_1 := U.out.cell (i := 1) (v := .int .i64 o2) rfl
            have qU_2 := U.out.cell (i := 2) (v := .int .i64 o3) rfl
            have qU_3 := U.out.cell (i := 3) (v := .int .i64 o4) rfl
            have qU_4 := U.out.cell (i := 4) (v := .int .i64 o5) rfl
            have rl_U := U.out.lt
            have qX2_0 := X2.out.cell (i := 0) (v := .int .i64 p) rfl
            have qX2_1 := X2.out.cell (i := 1) (v := .int .i64 q) rfl
            have rl_X2 := X2.out.lt
            go_wp2_with fail
            clear qU_0 qU_1 qU_2 qU_3 qU_4 rl_U qX2_0 qX2_1 rl_X2
            obtain ⟨u10, hu⟩ : ∃ u, u = x9.alloc (Obj.cells #[.int .i64 c1, .int .i64 c2, .int .i64 c3, .int .i64 c4, .int .i64 c5] 27) := ⟨_, rfl⟩
            rw [← hu]
            obtain ⟨gC, hg⟩ : ∃ g, x9.heap.size = g := ⟨_, rfl⟩
            have gw_gC : w.heap.size ≤ gC := by rw [← hg]; exact HB.out.size
            have hb : Below x9.heap.size x9 u10 := by rw [hu]; exact (Below.refl _ _).alloc (Nat.le_refl _) _
            replace X0 := Lib.hid (X0.out.keep hb)
            replace X1 := Lib.hid (X1.out.keep hb)
            replace X2 := Lib.hid (X2.out.keep hb)
            replace X3 := Lib.hid (X3.out.keep hb)
            replace S := Lib.hid (S.out.keep hb)
            replace U := Lib.hid (U.out.keep hb)
            replace HB := Lib.hid (HB.out.trans (hb.mono HB.out.size))
            clear hb
            have C : Hid (Blk u10 gC #[.int .i64 c1, .int .i64 c2, .int .i64 c3, .int .i64 c4, .int .i64 c5] 27) := by rw [hu, ← hg]; exact Blk.new _ _ _
            rw [hg]
            clear hu hg
            refine Calls.mono (ellin_v _ _ _ _ _ _ _ _ HUP.out _) ?_
            rintro e x11 ⟨rfl, hb⟩
            replace X0 := Lib.hid (X0.out.keep hb)
            replace X1 := Lib.hid (X1.out.keep hb)
            replace X2 := Lib.hid (X2.out.keep hb)
            replace X3 := Lib.hid (X3.out.keep hb)
            replace S := Lib.hid (S.out.keep hb)
            replace U := Lib.hid (U.out.keep hb)
            replace C := Lib.hid (C.out.keep hb)
            replace HB := Lib.hid (HB.out.trans (hb.mono HB.out.size))
            clear hb
            go_wp2_with fail
            refine Calls.mono (awake8_c _) ?_
            rintro e x12 ⟨rfl, hb⟩
            replace X0 := Lib.hid (X0.out.keep hb)
            replace X1 := Lib.hid (X1.out.keep hb)
            replace X2 := Lib.hid (X2.out.keep hb)
            replace X3 := Lib.hid (X3.out.keep hb)
            replace S := Lib.hid (S.out.keep hb)
            replace U := Lib.hid (U.out.keep hb)
            replace C := Lib.hid (C.out.keep hb)
            replace HB := Lib.hid (HB.out.trans (hb.mono HB.out.size))
            clear hb
            go_wp2_with fail
            go_ret
            exact ⟨rfl, HB.out⟩
          · have HAC := Lib.hid hac
            clear hac
            have qU_0 := U.out.cell (i := 0) (v := .int .i64 o1) rfl
            have qU_1 := U.out.cell (i := 1) (v := .int .i64 o2) rfl
            have qU_2 := U.out.cell (i := 2) (v := .int .i64 o3) rfl
            have qU_3 := U.out.cell (i := 3) (v := .int .i64 o4) rfl
            have qU_4 := U.out.cell (i := 4) (v := .int .i64 o5) rfl
            have rl_U := U.out.lt
            have qX2_0 := X2.out.cell (i := 0) (v := .int .i64 p) rfl
            have qX2_1 := X2.out.cell (i := 1) (v := .int .i64 q) rfl
            have rl_X2 := X2.out.lt
            go_wp2_with fail
            clear qU_0 qU_1 qU_2 qU_3 qU_4 rl_U qX2_0 qX2_1 rl_X2
            obtain ⟨u10, hu⟩ : ∃ u, u = x9.alloc (Obj.cells #[.int .i64 c1, .int .i64 c2, .int .i64 c3, .int .i64 c4, .int .i64 c5] 27) := ⟨_, rfl⟩
            rw [← hu]
            obtain ⟨gC, hg⟩ : ∃ g, x9.heap.size = g := ⟨_, rfl⟩
            have gw_gC : w.heap.size ≤ gC := by rw [← hg]; exact HB.out.size
            have hb : Below x9.heap.size x9 u10 := by rw [hu]; exact (Below.refl _ _).alloc (Nat.le_refl _) _
            replace X0 := Lib.hid (X0.out.keep hb)
            replace X1 := Lib.hid (X1.out.keep hb)
            replace X2 := Lib.hid (X2.out.keep hb)
            replace X3 := Lib.hid (X3.out.keep hb)
            replace S := Lib.hid (S.out.keep hb)
            replace U := Lib.hid (U.out.keep hb)
            replace HB := Lib.hid (HB.out.trans (hb.mono HB.out.size))
            clear hb
            have C : Hid (Blk u10 gC #[.int .i64 c1, .int .i64 c2, .int .i64 c3, .int .i64 c4, .int .i64 c5] 27) := by rw [hu, ← hg]; exact Blk.new _ _ _
            rw [hg]
            clear hu hg
            refine Calls.mono (ellin_v _ _ _ _ _ _ _ _ HUP.out _) ?_
            rintro e x11 ⟨rfl, hb⟩
            replace X0 := Lib.hid (X0.out.keep hb)
            replace X1 := Lib.hid (X1.out.keep hb)
            replace X2 := Lib.hid (X2.out.keep hb)
            replace X3 := Lib.hid (X3.out.keep hb)
            replace S := Lib.hid (S.out.keep hb)
            replace U := Lib.hid (U.out.keep hb)
            replace C := Lib.hid (C.out.keep hb)
            replace HB := Lib.hid (HB.out.trans (hb.mono HB.out.size))
            clear hb
            have qC_0 := C.out.cell (i := 0) (v := .int .i64 c1) rfl
            have qC_1 := C.out.cell (i := 1) (v := .int .i64 c2) rfl
            have qC_2 := C.out.cell (i := 2) (v := .int .i64 c3) rfl
            have qC_3 := C.out.cell (i := 3) (v := .int .i64 c4) rfl
            have qC_4 := C.out.cell (i := 4) (v := .int .i64 c5) rfl
            have rl_C := C.out.lt
            have qX2_0 := X2.out.cell (i := 0) (v := .int .i64 p) rfl
            have qX2_1 := X2.out.cell (i := 1) (v := .int .i64 q) rfl
            have rl_X2 := X2.out.lt
            go_wp2_with fail
            clear qC_0 qC_1 qC_2 qC_3 qC_4 rl_C qX2_0 qX2_1 rl_X2
            refine Calls.mono (ellin_v _ _ _ _ _ _ _ _ HAC.out _) ?_
            rintro e x12 ⟨rfl, hb⟩
            replace X0 := Lib.hid (X0.out.keep hb)
            replace X1 := Lib.hid (X1.out.keep hb)
            replace X2 := Lib.hid (X2.out.keep hb)
            replace X3 := Lib.hid (X3.out.keep hb)
            replace S := Lib.hid (S.out.keep hb)
            replace U := Lib.hid (U.out.keep hb)
            replace C := Lib.hid (C.out.keep hb)
            replace HB := Lib.hid (HB.out.trans (hb.mono HB.out.size))
            clear hb
            go_wp2_with fail
            refine Calls.mono (awake8_c _) ?_
            rintro e x13 ⟨rfl, hb⟩
            replace X0 := Lib.hid (X0.out.keep hb)
            replace X1 := Lib.hid (X1.out.keep hb)
            replace X2 := Lib.hid (X2.out.keep hb)
            replace X3 := Lib.hid (X3.out.keep hb)
            replace S := Lib.hid (S.out.keep hb)
            replace U := Lib.hid (U.out.keep hb)
            replace C := Lib.hid (C.out.keep hb)
            replace HB := Lib.hid (HB.out.trans (hb.mono HB.out.size))
            clear hb
            go_wp2_with fail
            go_ret
            exact ⟨rfl, HB.out⟩
        · obtain ⟨⟨t1, t2, t3, t4, t5, t6⟩, hr, hsm, hlo2, hhi2⟩ := ring_holds T hsame
          have HR := Lib.hid hr
          have sm := (St.may_iff _).1 hsm
          simp only at sm hlo2 hhi2
          have SS := cut_sums p q t1 t2 t3 t4 PB sm.1 sm.2.1
          obtain ⟨P, hP⟩ : ∃ P, p - t1 = P := ⟨_, rfl⟩
          obtain ⟨Q, hQ⟩ : ∃ P, q - t2 = P := ⟨_, rfl⟩
          have QB : -1077936128 ≤ P ∧ P ≤ 1077936128 ∧ -1077936128 ≤ Q ∧ Q ≤ 1077936128 := by omega
          rw [hP, hQ] at SS hlo2 hhi2
          obtain ⟨M, hM⟩ : ∃ M, t3 * P = M := ⟨_, rfl⟩
          obtain ⟨L, hL⟩ : ∃ M, t4 * Q = M := ⟨_, rfl⟩
          rw [hM, hL] at SS hlo2 hhi2
          obtain ⟨Z, hZ⟩ : ∃ L', M + L = L' := ⟨_, rfl⟩
          have ZB : -40000000000000000 ≤ Z ∧ Z ≤ 40000000000000000 := by omega
          rw [hZ] at hlo2 hhi2
          have v1 : ¬ Z < t5 := by omega
          have v2 : ¬ t6 < Z := by omega
          clear hr hsame em nm T hsm sm hlo2 hhi2
          go_enter Tryz.func4, Tryz.ntmps4
          go_wp2_with fail
          obtain ⟨u0, hu0⟩ : ∃ u, u = ((((w).alloc (Obj.cells #[.int .i64 x, .int .i64 y, .int .i64 a, .int .i64 b, .int .i64 d] 27)).alloc (Obj.cells #[.int .i64 x', .int .i64 y', .int .i64 a', .int .i64 b', .int .i64 d'] 27)).alloc (Obj.cells #[.int .i64 p, .int .i64 q] 23)).alloc (Obj.cells #[.int .i64 p', .int .i64 q'] 23) := ⟨_, rfl⟩
          rw [← hu0]
          have HB : Hid (Below w.heap.size w u0) := by rw [hu0]; show Below w.heap.size w _; exact below_byR
          have X0 : Hid (Blk u0 (w.heap.size) #[.int .i64 x, .int .i64 y, .int .i64 a, .int .i64 b, .int .i64 d] 27) := by rw [hu0]; exact (((Blk.new' _ _ _ (by simp)).alloc _).alloc _).alloc _
          have X1 : Hid (Blk u0 (w.heap.size + 1) #[.int .i64 x', .int .i64 y', .int .i64 a', .int .i64 b', .int .i64 d'] 27) := by rw [hu0]; exact ((Blk.new' _ _ _ (by simp)).alloc _).alloc _
          have X2 : Hid (Blk u0 (w.heap.size + 1 + 1) #[.int .i64 p, .int .i64 q] 23) := by rw [hu0]; exact (Blk.new' _ _ _ (by simp)).alloc _
          have X3 : Hid (Blk u0 (w.heap.size + 1 + 1 + 1) #[.int .i64 p', .int .i64 q'] 23) := by rw [hu0]; exact Blk.new' _ _ _ (by simp)
          clear hu0
          refine Calls.mono (ellin_v _ _ _ _ _ _ _ _ H1.out _) ?_
          rintro e x1 ⟨rfl, hb⟩
          replace X0 := Lib.hid (X0.out.keep hb)
          replace X1 := Lib.hid (X1.out.keep hb)
          replace X2 := Lib.hid (X2.out.keep hb)
          replace X3 := Lib.hid (X3.out.keep hb)
          replace HB := Lib.hid (HB.out.trans (hb.mono HB.out.size))
          clear hb
          have qX1_0 := X1.out.cell (i := 0) (v := .int .i64 x') rfl
          have qX1_1 := X1.out.cell (i := 1) (v := .int .i64 y') rfl
          have qX1_2 := X1.out.cell (i := 2) (v := .int .i64 a') rfl
          have qX1_3 := X1.out.cell (i := 3) (v := .int .i64 b') rfl
          have qX1_4 := X1.out.cell (i := 4) (v := .int .i64 d') rfl
          have rl_X1 := X1.out.lt
          have qX3_0 := X3.out.cell (i := 0) (v := .int .i64 p') rfl
          have qX3_1 := X3.out.cell (i := 1) (v := .int .i64 q') rfl
          have rl_X3 := X3.out.lt
          go_wp2_with fail
          clear qX1_0 qX1_1 qX1_2 qX1_3 qX1_4 rl_X1 qX3_0 qX3_1 rl_X3
          refine Calls.mono (ellin_v _ _ _ _ _ _ _ _ H2.out _) ?_
          rintro e x2 ⟨rfl, hb⟩
          replace X0 := Lib.hid (X0.out.keep hb)
          replace X1 := Lib.hid (X1.out.keep hb)
          replace X2 := Lib.hid (X2.out.keep hb)
          replace X3 := Lib.hid (X3.out.keep hb)
          replace HB := Lib.hid (HB.out.trans (hb.mono HB.out.size))
          clear hb
          go_wp2_with fail
          have qX2_0 := cell_regrown (X2.out.cell (i := 0) (v := .int .i64 p) rfl)
          have qX2_1 := cell_regrown (X2.out.cell (i := 1) (v := .int .i64 q) rfl)
          have qX3_0 := cell_regrown (X3.out.cell (i := 0) (v := .int .i64 p') rfl)
          have qX3_1 := cell_regrown (X3.out.cell (i := 1) (v := .int .i64 q') rfl)
          refine wp_region_quiet_below (by kernel_rfl) (by kernel_rfl) ?_
          repeat (go_big_quiet_step (fail))
          refine wpQuiet_nil ?_
          intro x3 hw
          have hb := below_of_regrown hw
          clear hw qX2_0 qX2_1 qX3_0 qX3_1
          replace X0 := Lib.hid (X0.out.keep hb)
          replace X1 := Lib.hid (X1.out.keep hb)
          replace X2 := Lib.hid (X2.out.keep hb)
          replace X3 := Lib.hid (X3.out.keep hb)
          replace HB := Lib.hid (HB.out.trans (hb.mono HB.out.size))
          clear hb
          go_wp2_with fail
          refine Calls.mono (rroot_v _ _ HD.out HSB.out _) ?_
          rintro e x4 ⟨rfl, hb⟩
          replace X0 := Lib.hid (X0.out.keep hb)
          replace X1 := Lib.hid (X1.out.keep hb)
          replace X2 := Lib.hid (X2.out.keep hb)
          replace X3 := Lib.hid (X3.out.keep hb)
          replace HB := Lib.hid (HB.out.trans (hb.mono HB.out.size))
          clear hb
          have hs1 := HS1.out
          have hs2 := HS2.out
          have hlo := HLO.out
          have hhi := HHI.out
          clear hS hm1 hm2 hdx hdy wx wy a1 a2 a3 a4 n1 n2 n3 n4 d1 d2 d3 d4
          have qX0_0 := X0.out.cell (i := 0) (v := .int .i64 x) rfl
          have qX0_1 := X0.out.cell (i := 1) (v := .int .i64 y) rfl
          have qX0_2 := X0.out.cell (i := 2) (v := .int .i64 a) rfl
          have qX0_3 := X0.out.cell (i := 3) (v := .int .i64 b) rfl
          have qX0_4 := X0.out.cell (i := 4) (v := .int .i64 d) rfl
          have rl_X0 := X0.out.lt
          have qX1_0 := X1.out.cell (i := 0) (v := .int .i64 x') rfl
          have qX1_1 := X1.out.cell (i := 1) (v := .int .i64 y') rfl
          have qX1_2 := X1.out.cell (i := 2) (v := .int .i64 a') rfl
          have qX1_3 := X1.out.cell (i := 3) (v := .int .i64 b') rfl
          have qX1_4 := X1.out.cell (i := 4) (v := .int .i64 d') rfl
          have rl_X1 := X1.out.lt
          go_wp2_with fail
          clear hs1 hs2 hlo hhi qX0_0 qX0_1 qX0_2 qX0_3 qX0_4 rl_X0 qX1_0 qX1_1 qX1_2 qX1_3 qX1_4 rl_X1
          refine Calls.mono (ring_v _ _ _ _ _ _ _ _ _ _ _ _ _ _ _ _ _ _ _ HR.out _) ?_
          rintro e x5 ⟨rfl, hb⟩
          replace X0 := Lib.hid (X0.out.keep hb)
          replace X1 := Lib.hid (X1.out.keep hb)
          replace X2 := Lib.hid (X2.out.keep hb)
          replace X3 := Lib.hid (X3.out.keep hb)
          replace HB := Lib.hid (HB.out.trans (hb.mono HB.out.size))
          clear hb
          have qX0_0 := X0.out.cell (i := 0) (v := .int .i64 x) rfl
          have qX0_1 := X0.out.cell (i := 1) (v := .int .i64 y) rfl
          have qX0_2 := X0.out.cell (i := 2) (v := .int .i64 a) rfl
          have qX0_3 := X0.out.cell (i := 3) (v := .int .i64 b) rfl
          have qX0_4 := X0.out.cell (i := 4) (v := .int .i64 d) rfl
          have rl_X0 := X0.out.lt
          have qX1_0 := X1.out.cell (i := 0) (v := .int .i64 x') rfl
          have qX1_1 := X1.out.cell (i := 1) (v := .int .i64 y') rfl
          have qX1_2 := X1.out.cell (i := 2) (v := .int .i64 a') rfl
          have qX1_3 := X1.out.cell (i := 3) (v := .int .i64 b') rfl
          have qX1_4 := X1.out.cell (i := 4) (v := .int .i64 d') rfl
          have rl_X1 := X1.out.lt
          have qX2_0 := X2.out.cell (i := 0) (v := .int .i64 p) rfl
          have qX2_1 := X2.out.cell (i := 1) (v := .int .i64 q) rfl
          have rl_X2 := X2.out.lt
          go_wp2_with fail
          clear qX0_0 qX0_1 qX0_2 qX0_3 qX0_4 rl_X0 qX1_0 qX1_1 qX1_2 qX1_3 qX1_4 rl_X1 qX2_0 qX2_1 rl_X2
          obtain ⟨u6, hu⟩ : ∃ u, u = x5.alloc (Obj.cells #[.int .i64 t1, .int .i64 t2, .int .i64 t3, .int .i64 t4, .int .i64 t5, .int .i64 t6] 39) := ⟨_, rfl⟩
          rw [← hu]
          obtain ⟨gS, hg⟩ : ∃ g, x5.heap.size = g := ⟨_, rfl⟩
          have gw_gS : w.heap.size ≤ gS := by rw [← hg]; exact HB.out.size
          have hb : Below x5.heap.size x5 u6 := by rw [hu]; exact (Below.refl _ _).alloc (Nat.le_refl _) _
          replace X0 := Lib.hid (X0.out.keep hb)
          replace X1 := Lib.hid (X1.out.keep hb)
          replace X2 := Lib.hid (X2.out.keep hb)
          replace X3 := Lib.hid (X3.out.keep hb)
          replace HB := Lib.hid (HB.out.trans (hb.mono HB.out.size))
          clear hb
          have S : Hid (Blk u6 gS #[.int .i64 t1, .int .i64 t2, .int .i64 t3, .int .i64 t4, .int .i64 t5, .int .i64 t6] 39) := by rw [hu, ← hg]; exact Blk.new _ _ _
          rw [hg]
          clear hu hg
          refine Calls.mono (upd_v _ _ _ _ _ _ _ _ _ _ _ _ _ _ _ _ _ _ HU.out _) ?_
          rintro e x7 ⟨rfl, hb⟩
          replace X0 := Lib.hid (X0.out.keep hb)
          replace X1 := Lib.hid (X1.out.keep hb)
          replace X2 := Lib.hid (X2.out.keep hb)
          replace X3 := Lib.hid (X3.out.keep hb)
          replace S := Lib.hid (S.out.keep hb)
          replace HB := Lib.hid (HB.out.trans (hb.mono HB.out.size))
          clear hb
          have qX1_0 := X1.out.cell (i := 0) (v := .int .i64 x') rfl
          have qX1_1 := X1.out.cell (i := 1) (v := .int .i64 y') rfl
          have qX1_2 := X1.out.cell (i := 2) (v := .int .i64 a') rfl
          have qX1_3 := X1.out.cell (i := 3) (v := .int .i64 b') rfl
          have qX1_4 := X1.out.cell (i := 4) (v := .int .i64 d') rfl
          have rl_X1 := X1.out.lt
          go_wp2_with fail
          clear qX1_0 qX1_1 qX1_2 qX1_3 qX1_4 rl_X1
          obtain ⟨u8, hu⟩ : ∃ u, u = x7.alloc (Obj.cells #[.int .i64 o1, .int .i64 o2, .int .i64 o3, .int .i64 o4, .int .i64 o5] 27) := ⟨_, rfl⟩
          rw [← hu]
          obtain ⟨gU, hg⟩ : ∃ g, x7.heap.size = g := ⟨_, rfl⟩
          have gw_gU : w.heap.size ≤ gU := by rw [← hg]; exact HB.out.size
          have hb : Below x7.heap.size x7 u8 := by rw [hu]; exact (Below.refl _ _).alloc (Nat.le_refl _) _
          replace X0 := Lib.hid (X0.out.keep hb)
          replace X1 := Lib.hid (X1.out.keep hb)
          replace X2 := Lib.hid (X2.out.keep hb)
          replace X3 := Lib.hid (X3.out.keep hb)
          replace S := Lib.hid (S.out.keep hb)
          replace HB := Lib.hid (HB.out.trans (hb.mono HB.out.size))
          clear hb
          have U : Hid (Blk u8 gU #[.int .i64 o1, .int .i64 o2, .int .i64 o3, .int .i64 o4, .int .i64 o5] 27) := by rw [hu, ← hg]; exact Blk.new _ _ _
          rw [hg]
          clear hu hg
          refine Calls.mono (acq_v _ _ _ _ _ _ _ _ _ _ _ _ HC.out _) ?_
          rintro e x9 ⟨rfl, hb⟩
          replace X0 := Lib.hid (X0.out.keep hb)
          replace X1 := Lib.hid (X1.out.keep hb)
          replace X2 := Lib.hid (X2.out.keep hb)
          replace X3 := Lib.hid (X3.out.keep hb)
          replace S := Lib.hid (S.out.keep hb)
          replace U := Lib.hid (U.out.keep hb)
          replace HB := Lib.hid (HB.out.trans (hb.mono HB.out.size))
          clear hb
          rcases ac with rfl | ⟨rfl, hac⟩
          · have qU_0 := U.out.cell (i := 0) (v := .int .i64 o1) rfl
            have qU_1 := U.out.cell (i := 1) (v := .int .i64 o2) rfl
            have qU_2 := U.out.cell (i := 2) (v := .int .i64 o3) rfl
            have qU_3 := U.out.cell (i := 3) (v := .int .i64 o4) rfl
            have qU_4 := U.out.cell (i := 4) (v := .int .i64 o5) rfl
            have rl_U := U.out.lt
            have qX2_0 := X2.out.cell (i := 0) (v := .int .i64 p) rfl
            have qX2_1 := X2.out.cell (i := 1) (v := .int .i64 q) rfl
            have rl_X2 := X2.out.lt
            go_wp2_with fail
            clear qU_0 qU_1 qU_2 qU_3 qU_4 rl_U qX2_0 qX2_1 rl_X2
            obtain ⟨u10, hu⟩ : ∃ u, u = x9.alloc (Obj.cells #[.int .i64 c1, .int .i64 c2, .int .i64 c3, .int .i64 c4, .int .i64 c5] 27) := ⟨_, rfl⟩
            rw [← hu]
            obtain ⟨gC, hg⟩ : ∃ g, x9.heap.size = g := ⟨_, rfl⟩
            have gw_gC : w.heap.size ≤ gC := by rw [← hg]; exact HB.out.size
            have hb : Below x9.heap.size x9 u10 := by rw [hu]; exact (Below.refl _ _).alloc (Nat.le_refl _) _
            replace X0 := Lib.hid (X0.out.keep hb)
            replace X1 := Lib.hid (X1.out.keep hb)
            replace X2 := Lib.hid (X2.out.keep hb)
            replace X3 := Lib.hid (X3.out.keep hb)
            replace S := Lib.hid (S.out.keep hb)
            replace U := Lib.hid (U.out.keep hb)
            replace HB := Lib.hid (HB.out.trans (hb.mono HB.out.size))
            clear hb
            have C : Hid (Blk u10 gC #[.int .i64 c1, .int .i64 c2, .int .i64 c3, .int .i64 c4, .int .i64 c5] 27) := by rw [hu, ← hg]; exact Blk.new _ _ _
            rw [hg]
            clear hu hg
            refine Calls.mono (ellin_v _ _ _ _ _ _ _ _ HUP.out _) ?_
            rintro e x11 ⟨rfl, hb⟩
            replace X0 := Lib.hid (X0.out.keep hb)
            replace X1 := Lib.hid (X1.out.keep hb)
            replace X2 := Lib.hid (X2.out.keep hb)
            replace X3 := Lib.hid (X3.out.keep hb)
            replace S := Lib.hid (S.out.keep hb)
            replace U := Lib.hid (U.out.keep hb)
            replace C := Lib.hid (C.out.keep hb)
            replace HB := Lib.hid (HB.out.trans (hb.mono HB.out.size))
            clear hb
            go_wp2_with fail
            refine Calls.mono (awake8_c _) ?_
            rintro e x12 ⟨rfl, hb⟩
            replace X0 := Lib.hid (X0.out.keep hb)
            replace X1 := Lib.hid (X1.out.keep hb)
            replace X2 := Lib.hid (X2.out.keep hb)
            replace X3 := Lib.hid (X3.out.keep hb)
            replace S := Lib.hid (S.out.keep hb)
            replace U := Lib.hid (U.out.keep hb)
            replace C := Lib.hid (C.out.keep hb)
            replace HB := Lib.hid (HB.out.trans (hb.mono HB.out.size))
            clear hb
            go_wp2_with fail
            go_ret
            exact ⟨rfl, HB.out⟩
          · have HAC := Lib.hid hac
            clear hac
            have qU_0 := U.out.cell (i := 0) (v := .int .i64 o1) rfl
            have qU_1 := U.out.cell (i := 1) (v := .int .i64 o2) rfl
            have qU_2 := U.out.cell (i := 2) (v := .int .i64 o3) rfl
            have qU_3 := U.out.cell (i := 3) (v := .int .i64 o4) rfl
            have qU_4 := U.out.cell (i := 4) (v := .int .i64 o5) rfl
            have rl_U := U.out.lt
            have qX2_0 := X2.out.cell (i := 0) (v := .int .i64 p) rfl
            have qX2_1 := X2.out.cell (i := 1) (v := .int .i64 q) rfl
            have rl_X2 := X2.out.lt
            go_wp2_with fail
            clear qU_0 qU_1 qU_2 qU_3 qU_4 rl_U qX2_0 qX2_1 rl_X2
            obtain ⟨u10, hu⟩ : ∃ u, u = x9.alloc (Obj.cells #[.int .i64 c1, .int .i64 c2, .int .i64 c3, .int .i64 c4, .int .i64 c5] 27) := ⟨_, rfl⟩
            rw [← hu]
            obtain ⟨gC, hg⟩ : ∃ g, x9.heap.size = g := ⟨_, rfl⟩
            have gw_gC : w.heap.size ≤ gC := by rw [← hg]; exact HB.out.size
            have hb : Below x9.heap.size x9 u10 := by rw [hu]; exact (Below.refl _ _).alloc (Nat.le_refl _) _
            replace X0 := Lib.hid (X0.out.keep hb)
            replace X1 := Lib.hid (X1.out.keep hb)
            replace X2 := Lib.hid (X2.out.keep hb)
            replace X3 := Lib.hid (X3.out.keep hb)
            replace S := Lib.hid (S.out.keep hb)
            replace U := Lib.hid (U.out.keep hb)
            replace HB := Lib.hid (HB.out.trans (hb.mono HB.out.size))
            clear hb
            have C : Hid (Blk u10 gC #[.int .i64 c1, .int .i64 c2, .int .i64 c3, .int .i64 c4, .int .i64 c5] 27) := by rw [hu, ← hg]; exact Blk.new _ _ _
            rw [hg]
            clear hu hg
            refine Calls.mono (ellin_v _ _ _ _ _ _ _ _ HUP.out _) ?_
            rintro e x11 ⟨rfl, hb⟩
            replace X0 := Lib.hid (X0.out.keep hb)
            replace X1 := Lib.hid (X1.out.keep hb)
            replace X2 := Lib.hid (X2.out.keep hb)
            replace X3 := Lib.hid (X3.out.keep hb)
            replace S := Lib.hid (S.out.keep hb)
            replace U := Lib.hid (U.out.keep hb)
            replace C := Lib.hid (C.out.keep hb)
            replace HB := Lib.hid (HB.out.trans (hb.mono HB.out.size))
            clear hb
            have qC_0 := C.out.cell (i := 0) (v := .int .i64 c1) rfl
            have qC_1 := C.out.cell (i := 1) (v := .int .i64 c2) rfl
            have qC_2 := C.out.cell (i := 2) (v := .int .i64 c3) rfl
            have qC_3 := C.out.cell (i := 3) (v := .int .i64 c4) rfl
            have qC_4 := C.out.cell (i := 4) (v := .int .i64 c5) rfl
            have rl_C := C.out.lt
            have qX2_0 := X2.out.cell (i := 0) (v := .int .i64 p) rfl
            have qX2_1 := X2.out.cell (i := 1) (v := .int .i64 q) rfl
            have rl_X2 := X2.out.lt
            go_wp2_with fail
            clear qC_0 qC_1 qC_2 qC_3 qC_4 rl_C qX2_0 qX2_1 rl_X2
            refine Calls.mono (ellin_v _ _ _ _ _ _ _ _ HAC.out _) ?_
            rintro e x12 ⟨rfl, hb⟩
            replace X0 := Lib.hid (X0.out.keep hb)
            replace X1 := Lib.hid (X1.out.keep hb)
            replace X2 := Lib.hid (X2.out.keep hb)
            replace X3 := Lib.hid (X3.out.keep hb)
            replace S := Lib.hid (S.out.keep hb)
            replace U := Lib.hid (U.out.keep hb)
            replace C := Lib.hid (C.out.keep hb)
            replace HB := Lib.hid (HB.out.trans (hb.mono HB.out.size))
            clear hb
            go_wp2_with fail
            refine Calls.mono (awake8_c _) ?_
            rintro e x13 ⟨rfl, hb⟩
            replace X0 := Lib.hid (X0.out.keep hb)
            replace X1 := Lib.hid (X1.out.keep hb)
            replace X2 := Lib.hid (X2.out.keep hb)
            replace X3 := Lib.hid (X3.out.keep hb)
            replace S := Lib.hid (S.out.keep hb)
            replace U := Lib.hid (U.out.keep hb)
            replace C := Lib.hid (C.out.keep hb)
            replace HB := Lib.hid (HB.out.trans (hb.mono HB.out.size))
            clear hb
            go_wp2_with fail
            go_ret
            exact ⟨rfl, HB.out⟩
end Go.Proofs.YtilginoibhfeiaaGreat
