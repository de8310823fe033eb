/- The walk of GrowForms. -/
import Derived.Test.YtilginoibhfeiaaXA
import Derived.Test.YtilginoibhfeiaaBE
namespace Go.Proofs.Ytilginoibhfeiaa
open Go.RowKit

set_option maxRecDepth 100000 in
set_option maxHeartbeats 4000000 in
theorem growForms_c (x y a b d x' y' a' b' d' r v n : Int) (hn : I64 n) (w : World) :
    Calls Try.prog 5 #[elC x y a b d, elC x' y' a' b' d', .int .i64 r, .int .i64 v, .int .i64 n] w fun e w' => e = .returned (.bool true) ∧ Below w.heap.size w w' := by
  obtain ⟨⟨r0_0, r0_1, r0_2, r0_3, r0_4⟩, k0, ho0⟩ : ∃ o k, sumE ⟨x, y, a, b, d⟩ ⟨x', y', a', b', d'⟩ = (o, k) := ⟨_, _, rfl⟩
  have HO0 := Lib.hid ho0
  obtain ⟨⟨r1_0, r1_1, r1_2, r1_3, r1_4⟩, k1, ho1⟩ : ∃ o k, growE ⟨x, y, a, b, d⟩ r = (o, k) := ⟨_, _, rfl⟩
  have HO1 := Lib.hid ho1
  obtain ⟨⟨r2_0, r2_1, r2_2, r2_3, r2_4⟩, k2, ho2⟩ : ∃ o k, ageE ⟨x, y, a, b, d⟩ v n = (o, k) := ⟨_, _, rfl⟩
  have HO2 := Lib.hid ho2
  clear ho0 ho1 ho2
  go_enter Try.func5, Try.ntmps5
  go_wp2_with fail
  obtain ⟨u0, hu0⟩ : ∃ u, u = ((w).alloc (Obj.cells #[.int .i64 x, .int .i64 y, .int .i64 a, .int .i64 b, .int .i64 d] 54)).alloc (Obj.cells #[.int .i64 x', .int .i64 y', .int .i64 a', .int .i64 b', .int .i64 d'] 54) := ⟨_, rfl⟩
  rw [← hu0]
  have HB : Hid (Below w.heap.size w u0) := by rw [hu0]; exact (by repeat (first | exact Below.refl _ _ | exact Below_of_hid (by assumption) | refine Below.drew ?_ | refine below_drewN ?_ _ | refine Below_putRow ?_ (by first | omega | (simp; done) | (simp; omega) | fail) _ _ | refine Below.alloc ?_ (by first | omega | (simp; done) | (simp; omega) | fail) _ | refine Below.setCell ?_ (by first | omega | (simp; done) | (simp; omega) | fail) _ | refine Below.trans ?_ (Below.mono (by assumption) (by first | omega | (simp; done) | (simp; omega) | fail))))
  have X0 : Hid (Blk u0 (w.heap.size) #[.int .i64 x, .int .i64 y, .int .i64 a, .int .i64 b, .int .i64 d] 54) := by rw [hu0]; exact (Blk.new' _ _ _ (by simp)).alloc _
  have X1 : Hid (Blk u0 (w.heap.size + 1) #[.int .i64 x', .int .i64 y', .int .i64 a', .int .i64 b', .int .i64 d'] 54) := by rw [hu0]; exact Blk.new' _ _ _ (by simp)
  clear hu0
  refine Calls.mono (sum_v _ _ _ _ _ _ _ _ _ _ _ _ HO0.out _) ?_
  rintro e x0 ⟨rfl, hb⟩
  replace X0 := Lib.hid (X0.out.keep hb)
  replace X1 := Lib.hid (X1.out.keep hb)
  replace HB := Lib.hid (HB.out.trans (hb.mono HB.out.size))
  clear hb
  have qX0_0 := X0.out.cell (i := 0) (v := .int .i64 x) rfl
  have qX0_1 := X0.out.cell (i := 1) (v := .int .i64 y) rfl
  have qX0_2 := X0.out.cell (i := 2) (v := .int .i64 a) rfl
  have qX0_3 := X0.out.cell (i := 3) (v := .int .i64 b) rfl
  have qX0_4 := X0.out.cell (i := 4) (v := .int .i64 d) rfl
  have rl_X0 := X0.out.lt
  have qX1_0 := X1.out.cell (i := 0) (v := .int .i64 x') rfl
  have qX1_1 := X1.out.cell (i := 1) (v := .int .i64 y') rfl
  have qX1_2 := X1.out.cell (i := 2) (v := .int .i64 a') rfl
  have qX1_3 := X1.out.cell (i := 3) (v := .int .i64 b') rfl
  have qX1_4 := X1.out.cell (i := 4) (v := .int .i64 d') rfl
  have rl_X1 := X1.out.lt
  go_wp2_with fail
  clear qX0_0 qX0_1 qX0_2 qX0_3 qX0_4 rl_X0 qX1_0 qX1_1 qX1_2 qX1_3 qX1_4 rl_X1
  obtain ⟨u1, hu⟩ : ∃ u, u = x0.alloc (Obj.cells #[.int .i64 r0_0, .int .i64 r0_1, .int .i64 r0_2, .int .i64 r0_3, .int .i64 r0_4] 54) := ⟨_, rfl⟩
  rw [← hu]
  obtain ⟨g0, hg⟩ : ∃ g, x0.heap.size = g := ⟨_, rfl⟩
  have gw0 : w.heap.size ≤ g0 := by rw [← hg]; exact HB.out.size
  have hb : Below x0.heap.size x0 u1 := by rw [hu]; exact (Below.refl _ _).alloc (Nat.le_refl _) _
  replace X0 := Lib.hid (X0.out.keep hb)
  replace X1 := Lib.hid (X1.out.keep hb)
  replace HB := Lib.hid (HB.out.trans (hb.mono HB.out.size))
  clear hb
  have R0_0 : Hid (Blk u1 g0 #[.int .i64 r0_0, .int .i64 r0_1, .int .i64 r0_2, .int .i64 r0_3, .int .i64 r0_4] 54) := by rw [hu, ← hg]; exact Blk.new _ _ _
  rw [hg]
  clear hu hg
  refine Calls.mono (rsum_v _ _ _ _ _ _ _ _ _ _ _ _ HO0.out _) ?_
  rintro e x1 ⟨rfl, hb⟩
  replace X0 := Lib.hid (X0.out.keep hb)
  replace X1 := Lib.hid (X1.out.keep hb)
  replace R0_0 := Lib.hid (R0_0.out.keep hb)
  replace HB := Lib.hid (HB.out.trans (hb.mono HB.out.size))
  clear hb
  have qX0_0 := X0.out.cell (i := 0) (v := .int .i64 x) rfl
  have qX0_1 := X0.out.cell (i := 1) (v := .int .i64 y) rfl
  have qX0_2 := X0.out.cell (i := 2) (v := .int .i64 a) rfl
  have qX0_3 := X0.out.cell (i := 3) (v := .int .i64 b) rfl
  have qX0_4 := X0.out.cell (i := 4) (v := .int .i64 d) rfl
  have rl_X0 := X0.out.lt
  go_wp2_with fail
  clear qX0_0 qX0_1 qX0_2 qX0_3 qX0_4 rl_X0
  obtain ⟨u2, hu⟩ : ∃ u, u = x1.alloc (Obj.cells #[.int .i64 r0_0, .int .i64 r0_1, .int .i64 r0_2, .int .i64 r0_3, .int .i64 r0_4] 54) := ⟨_, rfl⟩
  rw [← hu]
  obtain ⟨g1, hg⟩ : ∃ g, x1.heap.size = g := ⟨_, rfl⟩
  have gw1 : w.heap.size ≤ g1 := by rw [← hg]; exact HB.out.size
  have hb : Below x1.heap.size x1 u2 := by rw [hu]; exact (Below.refl _ _).alloc (Nat.le_refl _) _
  replace X0 := Lib.hid (X0.out.keep hb)
  replace X1 := Lib.hid (X1.out.keep hb)
  replace R0_0 := Lib.hid (R0_0.out.keep hb)
  replace HB := Lib.hid (HB.out.trans (hb.mono HB.out.size))
  clear hb
  have R0_1 : Hid (Blk u2 g1 #[.int .i64 r0_0, .int .i64 r0_1, .int .i64 r0_2, .int .i64 r0_3, .int .i64 r0_4] 54) := by rw [hu, ← hg]; exact Blk.new _ _ _
  rw [hg]
  clear hu hg
  refine Calls.mono (growball_v _ _ _ _ _ _ _ _ _ _ _ _ HO1.out _) ?_
  rintro e x2 ⟨rfl, hb⟩
  replace X0 := Lib.hid (X0.out.keep hb)
  replace X1 := Lib.hid (X1.out.keep hb)
  replace R0_0 := Lib.hid (R0_0.out.keep hb)
  replace R0_1 := Lib.hid (R0_1.out.keep hb)
  replace HB := Lib.hid (HB.out.trans (hb.mono HB.out.size))
  clear hb
  have qX0_0 := X0.out.cell (i := 0) (v := .int .i64 x) rfl
  have qX0_1 := X0.out.cell (i := 1) (v := .int .i64 y) rfl
  have qX0_2 := X0.out.cell (i := 2) (v := .int .i64 a) rfl
  have qX0_3 := X0.out.cell (i := 3) (v := .int .i64 b) rfl
  have qX0_4 := X0.out.cell (i := 4) (v := .int .i64 d) rfl
  have rl_X0 := X0.out.lt
  go_wp2_with fail
  clear qX0_0 qX0_1 qX0_2 qX0_3 qX0_4 rl_X0
  obtain ⟨u3, hu⟩ : ∃ u, u = x2.alloc (Obj.cells #[.int .i64 r1_0, .int .i64 r1_1, .int .i64 r1_2, .int .i64 r1_3, .int .i64 r1_4] 54) := ⟨_, rfl⟩
  rw [← hu]
  obtain ⟨g2, hg⟩ : ∃ g, x2.heap.size = g := ⟨_, rfl⟩
  have gw2 : w.heap.size ≤ g2 := by rw [← hg]; exact HB.out.size
  have hb : Below x2.heap.size x2 u3 := by rw [hu]; exact (Below.refl _ _).alloc (Nat.le_refl _) _
  replace X0 := Lib.hid (X0.out.keep hb)
  replace X1 := Lib.hid (X1.out.keep hb)
  replace R0_0 := Lib.hid (R0_0.out.keep hb)
  replace R0_1 := Lib.hid (R0_1.out.keep hb)
  replace HB := Lib.hid (HB.out.trans (hb.mono HB.out.size))
  clear hb
  have R1_0 : Hid (Blk u3 g2 #[.int .i64 r1_0, .int .i64 r1_1, .int .i64 r1_2, .int .i64 r1_3, .int .i64 r1_4] 54) := by rw [hu, ← hg]; exact Blk.new _ _ _
  rw [hg]
  clear hu hg
  refine Calls.mono (rgrow_v _ _ _ _ _ _ _ _ _ _ _ _ HO1.out _) ?_
  rintro e x3 ⟨rfl, hb⟩
  replace X0 := Lib.hid (X0.out.keep hb)
  replace X1 := Lib.hid (X1.out.keep hb)
  replace R0_0 := Lib.hid (R0_0.out.keep hb)
  replace R0_1 := Lib.hid (R0_1.out.keep hb)
  replace R1_0 := Lib.hid (R1_0.out.keep hb)
  replace HB := Lib.hid (HB.out.trans (hb.mono HB.out.size))
  clear hb
  have qX0_0 := X0.out.cell (i := 0) (v := .int .i64 x) rfl
  have qX0_1 := X0.out.cell (i := 1) (v := .int .i64 y) rfl
  have qX0_2 := X0.out.cell (i := 2) (v := .int .i64 a) rfl
  have qX0_3 := X0.out.cell (i := 3) (v := .int .i64 b) rfl
  have qX0_4 := X0.out.cell (i := 4) (v := .int .i64 d) rfl
  have rl_X0 := X0.out.lt
  go_wp2_with fail
  clear qX0_0 qX0_1 qX0_2 qX0_3 qX0_4 rl_X0
  obtain ⟨u4, hu⟩ : ∃ u, u = x3.alloc (Obj.cells #[.int .i64 r1_0, .int .i64 r1_1, .int .i64 r1_2, .int .i64 r1_3, .int .i64 r1_4] 54) := ⟨_, rfl⟩
  rw [← hu]
  obtain ⟨g3, hg⟩ : ∃ g, x3.heap.size = g := ⟨_, rfl⟩
  have gw3 : w.heap.size ≤ g3 := by rw [← hg]; exact HB.out.size
  have hb : Below x3.heap.size x3 u4 := by rw [hu]; exact (Below.refl _ _).alloc (Nat.le_refl _) _
  replace X0 := Lib.hid (X0.out.keep hb)
  replace X1 := Lib.hid (X1.out.keep hb)
  replace R0_0 := Lib.hid (R0_0.out.keep hb)
  replace R0_1 := Lib.hid (R0_1.out.keep hb)
  replace R1_0 := Lib.hid (R1_0.out.keep hb)
  replace HB := Lib.hid (HB.out.trans (hb.mono HB.out.size))
  clear hb
  have R1_1 : Hid (Blk u4 g3 #[.int .i64 r1_0, .int .i64 r1_1, .int .i64 r1_2, .int .i64 r1_3, .int .i64 r1_4] 54) := by rw [hu, ← hg]; exact Blk.new _ _ _
  rw [hg]
  clear hu hg
  refine Calls.mono (age_v _ _ _ _ _ _ _ _ _ _ _ _ _ hn.2 HO2.out _) ?_
  rintro e x4 ⟨rfl, hb⟩
  replace X0 := Lib.hid (X0.out.keep hb)
  replace X1 := Lib.hid (X1.out.keep hb)
  replace R0_0 := Lib.hid (R0_0.out.keep hb)
  replace R0_1 := Lib.hid (R0_1.out.keep hb)
  replace R1_0 := Lib.hid (R1_0.out.keep hb)
  replace R1_1 := Lib.hid (R1_1.out.keep hb)
  replace HB := Lib.hid (HB.out.trans (hb.mono HB.out.size))
  clear hb
  have qX0_0 := X0.out.cell (i := 0) (v := .int .i64 x) rfl
  have qX0_1 := X0.out.cell (i := 1) (v := .int .i64 y) rfl
  have qX0_2 := X0.out.cell (i := 2) (v := .int .i64 a) rfl
  have qX0_3 := X0.out.cell (i := 3) (v := .int .i64 b) rfl
  have qX0_4 := X0.out.cell (i := 4) (v := .int .i64 d) rfl
  have rl_X0 := X0.out.lt
  go_wp2_with fail
  clear qX0_0 qX0_1 qX0_2 qX0_3 qX0_4 rl_X0
  obtain ⟨u5, hu⟩ : ∃ u, u = x4.alloc (Obj.cells #[.int .i64 r2_0, .int .i64 r2_1, .int .i64 r2_2, .int .i64 r2_3, .int .i64 r2_4] 54) := ⟨_, rfl⟩
  rw [← hu]
  obtain ⟨g4, hg⟩ : ∃ g, x4.heap.size = g := ⟨_, rfl⟩
  have gw4 : w.heap.size ≤ g4 := by rw [← hg]; exact HB.out.size
  have hb : Below x4.heap.size x4 u5 := by rw [hu]; exact (Below.refl _ _).alloc (Nat.le_refl _) _
  replace X0 := Lib.hid (X0.out.keep hb)
  replace X1 := Lib.hid (X1.out.keep hb)
  replace R0_0 := Lib.hid (R0_0.out.keep hb)
  replace R0_1 := Lib.hid (R0_1.out.keep hb)
  replace R1_0 := Lib.hid (R1_0.out.keep hb)
  replace R1_1 := Lib.hid (R1_1.out.keep hb)
  replace HB := Lib.hid (HB.out.trans (hb.mono HB.out.size))
  clear hb
  have R2_0 : Hid (Blk u5 g4 #[.int .i64 r2_0, .int .i64 r2_1, .int .i64 r2_2, .int .i64 r2_3, .int .i64 r2_4] 54) := by rw [hu, ← hg]; exact Blk.new _ _ _
  rw [hg]
  clear hu hg
  refine Calls.mono (rage_v _ _ _ _ _ _ _ _ _ _ _ _ _ hn.2 HO2.out _) ?_
  rintro e x5 ⟨rfl, hb⟩
  replace X0 := Lib.hid (X0.out.keep hb)
  replace X1 := Lib.hid (X1.out.keep hb)
  replace R0_0 := Lib.hid (R0_0.out.keep hb)
  replace R0_1 := Lib.hid (R0_1.out.keep hb)
  replace R1_0 := Lib.hid (R1_0.out.keep hb)
  replace R1_1 := Lib.hid (R1_1.out.keep hb)
  replace R2_0 := Lib.hid (R2_0.out.keep hb)
  replace HB := Lib.hid (HB.out.trans (hb.mono HB.out.size))
  clear hb
  have qR0_0_0 := R0_0.out.cell (i := 0) (v := .int .i64 r0_0) rfl
  have qR0_0_1 := R0_0.out.cell (i := 1) (v := .int .i64 r0_1) rfl
  have qR0_0_2 := R0_0.out.cell (i := 2) (v := .int .i64 r0_2) rfl
  have qR0_0_3 := R0_0.out.cell (i := 3) (v := .int .i64 r0_3) rfl
  have qR0_0_4 := R0_0.out.cell (i := 4) (v := .int .i64 r0_4) rfl
  have rl_R0_0 := R0_0.out.lt
  have qR0_1_0 := R0_1.out.cell (i := 0) (v := .int .i64 r0_0) rfl
  have qR0_1_1 := R0_1.out.cell (i := 1) (v := .int .i64 r0_1) rfl
  have qR0_1_2 := R0_1.out.cell (i := 2) (v := .int .i64 r0_2) rfl
  have qR0_1_3 := R0_1.out.cell (i := 3) (v := .int .i64 r0_3) rfl
  have qR0_1_4 := R0_1.out.cell (i := 4) (v := .int .i64 r0_4) rfl
  have rl_R0_1 := R0_1.out.lt
  have qR1_0_0 := R1_0.out.cell (i := 0) (v := .int .i64 r1_0) rfl
  have qR1_0_1 := R1_0.out.cell (i := 1) (v := .int .i64 r1_1) rfl
  have qR1_0_2 := R1_0.out.cell (i := 2) (v := .int .i64 r1_2) rfl
  have qR1_0_3 := R1_0.out.cell (i := 3) (v := .int .i64 r1_3) rfl
  have qR1_0_4 := R1_0.out.cell (i := 4) (v := .int .i64 r1_4) rfl
  have rl_R1_0 := R1_0.out.lt
  have qR1_1_0 := R1_1.out.cell (i := 0) (v := .int .i64 r1_0) rfl
  have qR1_1_1 := R1_1.out.cell (i := 1) (v := .int .i64 r1_1) rfl
  have qR1_1_2 := R1_1.out.cell (i := 2) (v := .int .i64 r1_2) rfl
  have qR1_1_3 := R1_1.out.cell (i := 3) (v := .int .i64 r1_3) rfl
  have qR1_1_4 := R1_1.out.cell (i := 4) (v := .int .i64 r1_4) rfl
  have rl_R1_1 := R1_1.out.lt
  have qR2_0_0 := R2_0.out.cell (i := 0) (v := .int .i64 r2_0) rfl
  have qR2_0_1 := R2_0.out.cell (i := 1) (v := .int .i64 r2_1) rfl
  have qR2_0_2 := R2_0.out.cell (i := 2) (v := .int .i64 r2_2) rfl
  have qR2_0_3 := R2_0.out.cell (i := 3) (v := .int .i64 r2_3) rfl
  have qR2_0_4 := R2_0.out.cell (i := 4) (v := .int .i64 r2_4) rfl
  have rl_R2_0 := R2_0.out.lt
  go_wp2_with fail
  clear qR0_0_0 qR0_0_1 qR0_0_2 qR0_0_3 qR0_0_4 rl_R0_0 qR0_1_0 qR0_1_1 qR0_1_2 qR0_1_3 qR0_1_4 rl_R0_1 qR1_0_0 qR1_0_1 qR1_0_2 qR1_0_3 qR1_0_4 rl_R1_0 qR1_1_0 qR1_1_1 qR1_1_2 qR1_1_3 qR1_1_4 rl_R1_1 qR2_0_0 qR2_0_1 qR2_0_2 qR2_0_3 qR2_0_4 rl_R2_0
  obtain ⟨u6, hu⟩ : ∃ u, u = x5.alloc (Obj.cells #[.int .i64 r2_0, .int .i64 r2_1, .int .i64 r2_2, .int .i64 r2_3, .int .i64 r2_4] 54) := ⟨_, rfl⟩
  rw [← hu]
  obtain ⟨g5, hg⟩ : ∃ g, x5.heap.size = g := ⟨_, rfl⟩
  have gw5 : w.heap.size ≤ g5 := by rw [← hg]; exact HB.out.size
  have hb : Below x5.heap.size x5 u6 := by rw [hu]; exact (Below.refl _ _).alloc (Nat.le_refl _) _
  replace X0 := Lib.hid (X0.out.keep hb)
  replace X1 := Lib.hid (X1.out.keep hb)
  replace R0_0 := Lib.hid (R0_0.out.keep hb)
  replace R0_1 := Lib.hid (R0_1.out.keep hb)
  replace R1_0 := Lib.hid (R1_0.out.keep hb)
  replace R1_1 := Lib.hid (R1_1.out.keep hb)
  replace R2_0 := Lib.hid (R2_0.out.keep hb)
  replace HB := Lib.hid (HB.out.trans (hb.mono HB.out.size))
  clear hb
  have R2_1 : Hid (Blk u6 g5 #[.int .i64 r2_0, .int .i64 r2_1, .int .i64 r2_2, .int .i64 r2_3, .int .i64 r2_4] 54) := by rw [hu, ← hg]; exact Blk.new _ _ _
  rw [hg]
  clear hu hg
  refine Calls.mono (awake5_c _) ?_
  rintro e x ⟨rfl, hb⟩
  replace HB := Lib.hid (HB.out.trans (hb.mono HB.out.size))
  clear hb
  go_wp2_with fail
  go_ret
  exact ⟨rfl, HB.out⟩
end Go.Proofs.Ytilginoibhfeiaa
