/- The walk of WideParts. -/
import Derived.Test.YtilginoibhfeiaaRF
import Derived.Test.YtilginoibhfeiaaQA
import Derived.Test.YtilginoibhfeiaaBY
namespace Go.Proofs.Ytilginoibhfeiaa
open Go.RowKit

theorem div_ws {x y p : WI} {a : Int} (h : Hid (x.div y = (p, a))) {w : World} : Calls Try.prog 7 #[.agg x.cells, .agg y.cells] w fun e w' => e = .returned (.tuple #[.agg p.cells, .int .i64 a]) ∧ Below w.heap.size w w' := by
  have := div_I x y w
  rwa [h.out] at this
theorem div_rs {x y p : WI} {a : Int} (h : Hid (x.div y = (p, a))) {u v : Value} {w : World} (hx : BigIs w u x) (hy : BigIs w v y) : Calls Try.prog 8 #[u, v] w fun e w' => (∃ v, e = .returned (.tuple #[v, .int .i64 a]) ∧ BigIs w' v p) ∧ Below w.heap.size w w' := by
  have := divB_r u v x y w hx hy
  rwa [h.out] at this
theorem sqrt_ws {x p : WI} {a : Int} (h : Hid (x.sqrt = (p, a))) {w : World} : Calls Try.prog 9 #[.agg x.cells] w fun e w' => e = .returned (.tuple #[.agg p.cells, .int .i64 a]) ∧ Below w.heap.size w w' := by
  have := sqrt_I x w
  rwa [h.out] at this
theorem sqrt_rs {x p : WI} {a : Int} (h : Hid (x.sqrt = (p, a))) {u : Value} {w : World} (hx : BigIs w u x) : Calls Try.prog 10 #[u] w fun e w' => (∃ v, e = .returned (.tuple #[v, .int .i64 a]) ∧ BigIs w' v p) ∧ Below w.heap.size w w' := by
  have := sqrtB_r u x w hx
  rwa [h.out] at this
set_option maxRecDepth 100000 in
set_option maxHeartbeats 4000000 in
theorem wideParts_c (v0 v1 : Value) (z0 z1 : WI) (w : World) (h0 : NumIs w v0 z0) (h1 : NumIs w v1 z1) :
    Calls Try.prog 3 #[v0, v1] w fun e w' => e = .returned (.bool true) ∧ Below w.heap.size w w' := by
  have h0' := h0
  obtain ⟨A0, len0, cap0, T0, K0, rfl, -, -, -, -⟩ := h0'
  have HN0 := Lib.hid h0
  have h1' := h1
  obtain ⟨A1, len1, cap1, T1, K1, rfl, -, -, -, -⟩ := h1'
  have HN1 := Lib.hid h1
  clear h0 h1
  obtain ⟨p, pe, hp⟩ : ∃ p pe, z0.div z1 = (p, pe) := ⟨_, _, rfl⟩
  obtain ⟨r, re, hr⟩ : ∃ p pe, z0.sqrt = (p, pe) := ⟨_, _, rfl⟩
  have HP := Lib.hid hp
  have HRT := Lib.hid hr
  clear hp hr
  go_enter Try.func3, Try.ntmps3
  go_wp2_with fail
  have HU0 : Hid (Below w.heap.size w (((w).alloc (Obj.cells #[.slice A0 len0 cap0, .int .i64 K0] 24)).alloc (Obj.cells #[.slice A1 len1 cap1, .int .i64 K1] 24))) := (by repeat (first | exact Below.refl _ _ | exact Below_of_hid (by assumption) | refine Below.drew ?_ | refine below_drewN ?_ _ | refine Below_putRow ?_ (by first | omega | (simp; done) | (simp; omega) | fail) _ _ | refine Below.alloc ?_ (by first | omega | (simp; done) | (simp; omega) | fail) _ | refine Below.setCell ?_ (by first | omega | (simp; done) | (simp; omega) | fail) _ | refine Below.trans ?_ (Below.mono (by assumption) (by first | omega | (simp; done) | (simp; omega) | fail))))
  have X0_0 : Hid (Blk (((w).alloc (Obj.cells #[.slice A0 len0 cap0, .int .i64 K0] 24)).alloc (Obj.cells #[.slice A1 len1 cap1, .int .i64 K1] 24)) (w.heap.size) #[.slice A0 len0 cap0, .int .i64 K0] 24) := (Blk.new' _ _ _ (by simp)).alloc _
  have X1_0 : Hid (Blk (((w).alloc (Obj.cells #[.slice A0 len0 cap0, .int .i64 K0] 24)).alloc (Obj.cells #[.slice A1 len1 cap1, .int .i64 K1] 24)) (w.heap.size + 1) #[.slice A1 len1 cap1, .int .i64 K1] 24) := Blk.new' _ _ _ (by simp)
  refine (lawOf_r _ z0 _ (HN0.out.below HU0.out)).mono ?_
  rintro e w0 ⟨⟨bv0, rfl, hbv0⟩, hb0⟩
  obtain ⟨B0, c0, rfl, hR0⟩ := hbv0.opened
  have HR0 := Lib.hid hR0
  have HV0 : Hid (Below w.heap.size w w0) := HU0.out.trans (hb0.mono HU0.out.size)
  have Y0_0 := Lib.hid (X0_0.out.keep hb0)
  have Y1_0 := Lib.hid (X1_0.out.keep hb0)
  have lc1_0 : w0.cell? ⟨w.heap.size + 1, 0, none⟩ = some (.slice A1 len1 cap1) := Y1_0.out.cell (i := 0) rfl
  have ld1_0 : w0.cell? ⟨w.heap.size + 1, 1, none⟩ = some (.int .i64 K1) := Y1_0.out.cell (i := 1) rfl
  have le1_0 := Y1_0.out.lt
  have lf0_0 : w.heap.size < w0.heap.size := by omega
  have sz0 := HV0.out.size
  clear hbv0 hR0 hb0 HU0 X0_0 X1_0
  go_wp2_with fail
  obtain ⟨u1, hu1⟩ : ∃ u1, u1 = (w0.alloc (Obj.cells z0.cells 29)).alloc (Obj.cells #[.bool z0.ng, .bool z0.ov, .slice B0 (dg z0.sz).length c0] 32) := ⟨_, rfl⟩
  rw [← hu1]
  obtain ⟨g0, hg0⟩ : ∃ g0, g0 = w0.heap.size := ⟨_, rfl⟩
  have gw0 : w.heap.size ≤ g0 := by rw [hg0]; exact sz0
  have HU1 : Hid (Below w.heap.size w u1) := by rw [hu1]; exact (HV0.out.alloc HV0.out.size _).alloc (by simp; omega) _
  have X0_1 : Hid (Blk u1 (w.heap.size) #[.slice A0 len0 cap0, .int .i64 K0] 24) := by rw [hu1]; exact (Y0_0.out.alloc _).alloc _
  have X1_1 : Hid (Blk u1 (w.heap.size + 1) #[.slice A1 len1 cap1, .int .i64 K1] 24) := by rw [hu1]; exact (Y1_0.out.alloc _).alloc _
  have BA0_1 : Hid (Blk u1 g0 z0.cells 29) := by rw [hu1, hg0]; exact (Blk.new _ _ _).alloc _
  have BB0_1 : Hid (BigAt u1 (g0 + 1) z0) := by rw [hu1, hg0]; exact ⟨B0, c0, Blk.new' _ _ _ (by simp), HR0.out.below (((Below.refl _ _).alloc (Nat.le_refl _) _).alloc (by simp) _)⟩
  rw [← hg0]
  clear hu1 hg0 HR0 HV0 sz0 Y0_0 Y1_0 lc1_0 ld1_0 le1_0 lf0_0
  refine (lawOf_r _ z1 _ (HN1.out.below HU1.out)).mono ?_
  rintro e w1 ⟨⟨bv1, rfl, hbv1⟩, hb1⟩
  obtain ⟨B1, c1, rfl, hR1⟩ := hbv1.opened
  have HR1 := Lib.hid hR1
  have HV1 : Hid (Below w.heap.size w w1) := HU1.out.trans (hb1.mono HU1.out.size)
  have Y0_1 := Lib.hid (X0_1.out.keep hb1)
  have Y1_1 := Lib.hid (X1_1.out.keep hb1)
  have YA0_1 := Lib.hid (BA0_1.out.keep hb1)
  have YB0_1 := Lib.hid (BB0_1.out.keep hb1)
  have sz1 := HV1.out.size
  clear hbv1 hR1 hb1 HU1 X0_1 X1_1 BA0_1 BB0_1
  have ra0 := YA0_1.out.row?_all 18 (by simp)
  have rl0 := YA0_1.out.lt
  go_wp2_with fail
  clear ra0 rl0
  obtain ⟨u2, hu2⟩ : ∃ u2, u2 = (w1.alloc (Obj.cells z1.cells 29)).alloc (Obj.cells #[.bool z1.ng, .bool z1.ov, .slice B1 (dg z1.sz).length c1] 32) := ⟨_, rfl⟩
  rw [← hu2]
  obtain ⟨g1, hg1⟩ : ∃ g1, g1 = w1.heap.size := ⟨_, rfl⟩
  have gw1 : w.heap.size ≤ g1 := by rw [hg1]; exact sz1
  have HU2 : Hid (Below w.heap.size w u2) := by rw [hu2]; exact (HV1.out.alloc HV1.out.size _).alloc (by simp; omega) _
  have X0_2 : Hid (Blk u2 (w.heap.size) #[.slice A0 len0 cap0, .int .i64 K0] 24) := by rw [hu2]; exact (Y0_1.out.alloc _).alloc _
  have X1_2 : Hid (Blk u2 (w.heap.size + 1) #[.slice A1 len1 cap1, .int .i64 K1] 24) := by rw [hu2]; exact (Y1_1.out.alloc _).alloc _
  have BA0_2 : Hid (Blk u2 g0 z0.cells 29) := by rw [hu2]; exact (YA0_1.out.alloc _).alloc _
  have BB0_2 : Hid (BigAt u2 (g0 + 1) z0) := by rw [hu2]; exact (YB0_1.out.keep ((Below.refl _ _).alloc (Nat.le_refl _) _)).keep ((Below.refl _ _).alloc (Nat.le_refl _) _)
  have BA1_2 : Hid (Blk u2 g1 z1.cells 29) := by rw [hu2, hg1]; exact (Blk.new _ _ _).alloc _
  have BB1_2 : Hid (BigAt u2 (g1 + 1) z1) := by rw [hu2, hg1]; exact ⟨B1, c1, Blk.new' _ _ _ (by simp), HR1.out.below (((Below.refl _ _).alloc (Nat.le_refl _) _).alloc (by simp) _)⟩
  rw [← hg1]
  clear hu2 hg1 HR1 HV1 sz1 Y0_1 Y1_1 YA0_1 YB0_1
  have BA0 := BA0_2
  have BB0 := BB0_2
  have ra0 := BA0.out.row?_all 18 (by simp)
  have BA1 := BA1_2
  have BB1 := BB1_2
  have ra1 := BA1.out.row?_all 18 (by simp)
  have HB := HU2
  clear HU2 X0_2 X1_2 BA0_2 BB0_2 BA1_2 BB1_2
  clear ra0 ra1
  obtain ⟨Aq0, cq0, hC0, hR0⟩ := BB0.out
  have BC0 := Lib.hid hC0
  have HR0 := Lib.hid hR0
  clear hC0 hR0 BB0
  obtain ⟨Aq1, cq1, hC1, hR1⟩ := BB1.out
  have BC1 := Lib.hid hC1
  have HR1 := Lib.hid hR1
  clear hC1 hR1 BB1
  have ra_BA0 := BA0.out.row?_all 18 (by simp)
  have rl_BA0 := BA0.out.lt
  have ra_BA1 := BA1.out.row?_all 18 (by simp)
  have rl_BA1 := BA1.out.lt
  go_wp2_with fail
  refine (div_ws HP).mono ?_
  rintro e x1 ⟨rfl, hb⟩
  clear ra_BA0 rl_BA0 ra_BA1 rl_BA1
  replace BA0 := Lib.hid (BA0.out.keep hb)
  replace BA1 := Lib.hid (BA1.out.keep hb)
  replace BC0 := Lib.hid (BC0.out.keep hb)
  replace BC1 := Lib.hid (BC1.out.keep hb)
  replace HR0 := Lib.hid (HR0.out.below hb)
  replace HR1 := Lib.hid (HR1.out.below hb)
  replace HB := Lib.hid (HB.out.trans (hb.mono HB.out.size))
  clear hb
  have qBC00 := BC0.out.cell (i := 0) (v := .bool z0.ng) rfl
  have qBC01 := BC0.out.cell (i := 1) (v := .bool z0.ov) rfl
  have qBC02 := BC0.out.cell (i := 2) (v := .slice Aq0 (dg z0.sz).length cq0) rfl
  have rl_BC0 := BC0.out.lt
  have qBC10 := BC1.out.cell (i := 0) (v := .bool z1.ng) rfl
  have qBC11 := BC1.out.cell (i := 1) (v := .bool z1.ov) rfl
  have qBC12 := BC1.out.cell (i := 2) (v := .slice Aq1 (dg z1.sz).length cq1) rfl
  have rl_BC1 := BC1.out.lt
  go_wp2_with fail
  clear qBC00 qBC01 qBC02 rl_BC0 qBC10 qBC11 qBC12 rl_BC1
  obtain ⟨u3, hu3⟩ : ∃ u3, u3 = x1.alloc (Obj.cells p.cells 29) := ⟨_, rfl⟩
  rw [← hu3]
  obtain ⟨gp, hgp⟩ : ∃ g, x1.heap.size = g := ⟨_, rfl⟩
  have gwgp : w.heap.size ≤ gp := by rw [← hgp]; exact HB.out.size
  have bal : Below x1.heap.size x1 u3 := by rw [hu3]; exact (Below.refl _ _).alloc (Nat.le_refl _) _
  replace BA0 := Lib.hid (BA0.out.keep bal)
  replace BA1 := Lib.hid (BA1.out.keep bal)
  replace BC0 := Lib.hid (BC0.out.keep bal)
  replace BC1 := Lib.hid (BC1.out.keep bal)
  replace HR0 := Lib.hid (HR0.out.below bal)
  replace HR1 := Lib.hid (HR1.out.below bal)
  replace HB := Lib.hid (HB.out.trans (bal.mono HB.out.size))
  have BP : Hid (Blk u3 gp p.cells 29) := by rw [hu3, ← hgp]; exact Blk.new _ _ _
  rw [hgp]
  clear hu3 hgp bal
  refine (div_rs HP (BigIs.mk HR0.out) (BigIs.mk HR1.out)).mono ?_
  rintro e x2 ⟨⟨v2, rfl, hv2⟩, hb⟩
  obtain ⟨AqQ, cqQ, rfl, hs2⟩ := hv2.opened
  have HRQ := Lib.hid hs2
  clear hv2 hs2
  replace BA0 := Lib.hid (BA0.out.keep hb)
  replace BA1 := Lib.hid (BA1.out.keep hb)
  replace BC0 := Lib.hid (BC0.out.keep hb)
  replace BC1 := Lib.hid (BC1.out.keep hb)
  replace BP := Lib.hid (BP.out.keep hb)
  replace HR0 := Lib.hid (HR0.out.below hb)
  replace HR1 := Lib.hid (HR1.out.below hb)
  replace HB := Lib.hid (HB.out.trans (hb.mono HB.out.size))
  clear hb
  have ra_BA0 := BA0.out.row?_all 18 (by simp)
  have rl_BA0 := BA0.out.lt
  go_wp2_with fail
  clear ra_BA0 rl_BA0
  obtain ⟨u4, hu4⟩ : ∃ u4, u4 = x2.alloc (Obj.cells #[.bool p.ng, .bool p.ov, .slice AqQ (dg p.sz).length cqQ] 32) := ⟨_, rfl⟩
  rw [← hu4]
  obtain ⟨gq, hgq⟩ : ∃ g, x2.heap.size = g := ⟨_, rfl⟩
  have gwgq : w.heap.size ≤ gq := by rw [← hgq]; exact HB.out.size
  have bal : Below x2.heap.size x2 u4 := by rw [hu4]; exact (Below.refl _ _).alloc (Nat.le_refl _) _
  replace BA0 := Lib.hid (BA0.out.keep bal)
  replace BA1 := Lib.hid (BA1.out.keep bal)
  replace BC0 := Lib.hid (BC0.out.keep bal)
  replace BC1 := Lib.hid (BC1.out.keep bal)
  replace BP := Lib.hid (BP.out.keep bal)
  replace HR0 := Lib.hid (HR0.out.below bal)
  replace HR1 := Lib.hid (HR1.out.below bal)
  replace HRQ := Lib.hid (HRQ.out.below bal)
  replace HB := Lib.hid (HB.out.trans (bal.mono HB.out.size))
  have BCQ : Hid (Blk u4 gq #[.bool p.ng, .bool p.ov, .slice AqQ (dg p.sz).length cqQ] 32) := by rw [hu4, ← hgq]; exact Blk.new _ _ _
  rw [hgq]
  clear hu4 hgq bal
  refine (sqrt_ws HRT).mono ?_
  rintro e x3 ⟨rfl, hb⟩
  replace BA0 := Lib.hid (BA0.out.keep hb)
  replace BA1 := Lib.hid (BA1.out.keep hb)
  replace BC0 := Lib.hid (BC0.out.keep hb)
  replace BC1 := Lib.hid (BC1.out.keep hb)
  replace BP := Lib.hid (BP.out.keep hb)
  replace BCQ := Lib.hid (BCQ.out.keep hb)
  replace HR0 := Lib.hid (HR0.out.below hb)
  replace HR1 := Lib.hid (HR1.out.below hb)
  replace HRQ := Lib.hid (HRQ.out.below hb)
  replace HB := Lib.hid (HB.out.trans (hb.mono HB.out.size))
  clear hb
  have qBC00 := BC0.out.cell (i := 0) (v := .bool z0.ng) rfl
  have qBC01 := BC0.out.cell (i := 1) (v := .bool z0.ov) rfl
  have qBC02 := BC0.out.cell (i := 2) (v := .slice Aq0 (dg z0.sz).length cq0) rfl
  have rl_BC0 := BC0.out.lt
  go_wp2_with fail
  clear qBC00 qBC01 qBC02 rl_BC0
  obtain ⟨u5, hu5⟩ : ∃ u5, u5 = x3.alloc (Obj.cells r.cells 29) := ⟨_, rfl⟩
  rw [← hu5]
  obtain ⟨gr, hgr⟩ : ∃ g, x3.heap.size = g := ⟨_, rfl⟩
  have gwgr : w.heap.size ≤ gr := by rw [← hgr]; exact HB.out.size
  have bal : Below x3.heap.size x3 u5 := by rw [hu5]; exact (Below.refl _ _).alloc (Nat.le_refl _) _
  replace BA0 := Lib.hid (BA0.out.keep bal)
  replace BA1 := Lib.hid (BA1.out.keep bal)
  replace BC0 := Lib.hid (BC0.out.keep bal)
  replace BC1 := Lib.hid (BC1.out.keep bal)
  replace BP := Lib.hid (BP.out.keep bal)
  replace BCQ := Lib.hid (BCQ.out.keep bal)
  replace HR0 := Lib.hid (HR0.out.below bal)
  replace HR1 := Lib.hid (HR1.out.below bal)
  replace HRQ := Lib.hid (HRQ.out.below bal)
  replace HB := Lib.hid (HB.out.trans (bal.mono HB.out.size))
  have BR : Hid (Blk u5 gr r.cells 29) := by rw [hu5, ← hgr]; exact Blk.new _ _ _
  rw [hgr]
  clear hu5 hgr bal
  refine (sqrt_rs HRT (BigIs.mk HR0.out)).mono ?_
  rintro e x4 ⟨⟨v4, rfl, hv4⟩, hb⟩
  obtain ⟨AqS, cqS, rfl, hs4⟩ := hv4.opened
  have HRS := Lib.hid hs4
  clear hv4 hs4
  replace BA0 := Lib.hid (BA0.out.keep hb)
  replace BA1 := Lib.hid (BA1.out.keep hb)
  replace BC0 := Lib.hid (BC0.out.keep hb)
  replace BC1 := Lib.hid (BC1.out.keep hb)
  replace BP := Lib.hid (BP.out.keep hb)
  replace BCQ := Lib.hid (BCQ.out.keep hb)
  replace BR := Lib.hid (BR.out.keep hb)
  replace HR0 := Lib.hid (HR0.out.below hb)
  replace HR1 := Lib.hid (HR1.out.below hb)
  replace HRQ := Lib.hid (HRQ.out.below hb)
  replace HB := Lib.hid (HB.out.trans (hb.mono HB.out.size))
  clear hb
  have ra_BP := BP.out.row?_all 18 (by simp)
  have rl_BP := BP.out.lt
  have qBCQ0 := BCQ.out.cell (i := 0) (v := .bool p.ng) rfl
  have qBCQ1 := BCQ.out.cell (i := 1) (v := .bool p.ov) rfl
  have qBCQ2 := BCQ.out.cell (i := 2) (v := .slice AqQ (dg p.sz).length cqQ) rfl
  have rl_BCQ := BCQ.out.lt
  go_wp2_with fail
  clear ra_BP rl_BP qBCQ0 qBCQ1 qBCQ2 rl_BCQ
  obtain ⟨u6, hu6⟩ : ∃ u6, u6 = x4.alloc (Obj.cells #[.bool r.ng, .bool r.ov, .slice AqS (dg r.sz).length cqS] 32) := ⟨_, rfl⟩
  rw [← hu6]
  obtain ⟨gs, hgs⟩ : ∃ g, x4.heap.size = g := ⟨_, rfl⟩
  have gwgs : w.heap.size ≤ gs := by rw [← hgs]; exact HB.out.size
  have bal : Below x4.heap.size x4 u6 := by rw [hu6]; exact (Below.refl _ _).alloc (Nat.le_refl _) _
  replace BA0 := Lib.hid (BA0.out.keep bal)
  replace BA1 := Lib.hid (BA1.out.keep bal)
  replace BC0 := Lib.hid (BC0.out.keep bal)
  replace BC1 := Lib.hid (BC1.out.keep bal)
  replace BP := Lib.hid (BP.out.keep bal)
  replace BCQ := Lib.hid (BCQ.out.keep bal)
  replace BR := Lib.hid (BR.out.keep bal)
  replace HR0 := Lib.hid (HR0.out.below bal)
  replace HR1 := Lib.hid (HR1.out.below bal)
  replace HRQ := Lib.hid (HRQ.out.below bal)
  replace HRS := Lib.hid (HRS.out.below bal)
  replace HB := Lib.hid (HB.out.trans (bal.mono HB.out.size))
  have BCS : Hid (Blk u6 gs #[.bool r.ng, .bool r.ov, .slice AqS (dg r.sz).length cqS] 32) := by rw [hu6, ← hgs]; exact Blk.new _ _ _
  rw [hgs]
  clear hu6 hgs bal
  refine (same_r p _ _ (BigIs.mk HRQ.out)).mono ?_
  rintro e x5 ⟨rfl, hb⟩
  replace BA0 := Lib.hid (BA0.out.keep hb)
  replace BA1 := Lib.hid (BA1.out.keep hb)
  replace BC0 := Lib.hid (BC0.out.keep hb)
  replace BC1 := Lib.hid (BC1.out.keep hb)
  replace BP := Lib.hid (BP.out.keep hb)
  replace BCQ := Lib.hid (BCQ.out.keep hb)
  replace BR := Lib.hid (BR.out.keep hb)
  replace BCS := Lib.hid (BCS.out.keep hb)
  replace HR0 := Lib.hid (HR0.out.below hb)
  replace HR1 := Lib.hid (HR1.out.below hb)
  replace HRQ := Lib.hid (HRQ.out.below hb)
  replace HRS := Lib.hid (HRS.out.below hb)
  replace HB := Lib.hid (HB.out.trans (hb.mono HB.out.size))
  clear hb
  have ra_BR := BR.out.row?_all 18 (by simp)
  have rl_BR := BR.out.lt
  have qBCS0 := BCS.out.cell (i := 0) (v := .bool r.ng) rfl
  have qBCS1 := BCS.out.cell (i := 1) (v := .bool r.ov) rfl
  have qBCS2 := BCS.out.cell (i := 2) (v := .slice AqS (dg r.sz).length cqS) rfl
  have rl_BCS := BCS.out.lt
  go_wp2_with fail
  clear ra_BR rl_BR qBCS0 qBCS1 qBCS2 rl_BCS
  refine (same_r r _ _ (BigIs.mk HRS.out)).mono ?_
  rintro e x6 ⟨rfl, hb⟩
  replace BA0 := Lib.hid (BA0.out.keep hb)
  replace BA1 := Lib.hid (BA1.out.keep hb)
  replace BC0 := Lib.hid (BC0.out.keep hb)
  replace BC1 := Lib.hid (BC1.out.keep hb)
  replace BP := Lib.hid (BP.out.keep hb)
  replace BCQ := Lib.hid (BCQ.out.keep hb)
  replace BR := Lib.hid (BR.out.keep hb)
  replace BCS := Lib.hid (BCS.out.keep hb)
  replace HR0 := Lib.hid (HR0.out.below hb)
  replace HR1 := Lib.hid (HR1.out.below hb)
  replace HRQ := Lib.hid (HRQ.out.below hb)
  replace HRS := Lib.hid (HRS.out.below hb)
  replace HB := Lib.hid (HB.out.trans (hb.mono HB.out.size))
  clear hb
  go_wp2_with fail
  refine (awake1_c _).mono ?_
  rintro e x7 ⟨rfl, hb⟩
  replace BA0 := Lib.hid (BA0.out.keep hb)
  replace BA1 := Lib.hid (BA1.out.keep hb)
  replace BC0 := Lib.hid (BC0.out.keep hb)
  replace BC1 := Lib.hid (BC1.out.keep hb)
  replace BP := Lib.hid (BP.out.keep hb)
  replace BCQ := Lib.hid (BCQ.out.keep hb)
  replace BR := Lib.hid (BR.out.keep hb)
  replace BCS := Lib.hid (BCS.out.keep hb)
  replace HR0 := Lib.hid (HR0.out.below hb)
  replace HR1 := Lib.hid (HR1.out.below hb)
  replace HRQ := Lib.hid (HRQ.out.below hb)
  replace HRS := Lib.hid (HRS.out.below hb)
  replace HB := Lib.hid (HB.out.trans (hb.mono HB.out.size))
  clear hb
  go_wp2_with fail
  go_ret
  exact ⟨rfl, HB.out⟩
end Go.Proofs.Ytilginoibhfeiaa
