/- The walks of the document's Floor, Ceil, Near. -/
import Derived.Test.YtnoidlacjiafdaaGreatY1
import Derived.Test.YtnoidlacjiafdaaGreatRF
import Derived.Test.YtnoidlacjiafdaaGreatRq
import Derived.Test.YtnoidlacjiafdaaGreatBY
import Derived.Deep.Cut
import Derived.Deep.RegionHeld3
namespace Go.Proofs.YtnoidlacjiafdaaGreat
set_option linter.unusedSimpArgs false
set_option linter.unusedVariables false
set_option linter.unusedSimpArgs false
open Go.RowKit

theorem BigIs.flags {w : World} {n o : Bool} {s : Value} {x : WI} (h : BigIs w (.agg #[.bool n, .bool o, s]) x) : n = x.ng ∧ o = x.ov := by
  obtain ⟨s', e, -⟩ := h
  injection e with e
  have := congrArg Array.toList e
  simp at this
  exact ⟨this.1, this.2.1⟩
theorem divB_v {x y p : WI} {a : Int} (h : Hid (x.div y = (p, a))) {u v : Value} {w : World} (hx : BigIs w u x) (hy : BigIs w v y) : Calls Tryz.prog 120 #[u, v] w fun e w' => (∃ v, e = .returned (.tuple #[v, .int .i64 a]) ∧ BigIs w' v p) ∧ Below w.heap.size w w' := by
  have := divB_r u v x y w hx hy
  rwa [h.out] at this
theorem i64B_v {x : WI} {a : Int} {b : Bool} (h : Hid (x.i64 = (a, b))) {u : Value} {w : World} (hx : BigIs w u x) : Calls Tryz.prog 84 #[u] w fun e w' => e = .returned (.tuple #[.int .i64 a, .bool b]) ∧ Below w.heap.size w w' := by
  have := int64_r u x w hx
  rwa [h.out] at this
theorem signB_v {x : WI} {a : Int} (h : Hid (x.sign = a)) {u : Value} {w : World} (hx : BigIs w u x) : Calls Tryz.prog 29 #[u] w fun e w' => e = .returned (.int .i64 a) ∧ Below w.heap.size w w' := by
  have := sign_r u x w hx
  rwa [h.out] at this
theorem negB_v {x z : WI} (h : Hid (x.neg = z)) {u : Value} {w : World} (hx : BigIs w u x) : Calls Tryz.prog 60 #[u] w fun e w' => (∃ v, e = .returned v ∧ BigIs w' v z) ∧ Below w.heap.size w w' := by
  rw [← h.out]; exact neg_r u x w hx
theorem big_cells {w : World} {g : Nat} {n o : Bool} {A : Option Addr} {l k : Nat} {t : TypeId} (B : Blk w g #[.bool n, .bool o, .slice A l k] t) : w.cell? ⟨g, 0, none⟩ = some (.bool n) ∧ w.cell? ⟨g, 1, none⟩ = some (.bool o) ∧ w.cell? ⟨g, 2, none⟩ = some (.slice A l k) := ⟨B.cell rfl, B.cell rfl, B.cell rfl⟩
theorem fit_ov {x y : WI} (h : x.ov = true ∨ y.ov = true) : fitV x y = 2 := by unfold fitV; rw [if_pos h]
theorem fit_sg {x y : WI} (h1 : x.ov = false) (h2 : y.ov = false) (h : y.sign ≤ 0) : fitV x y = 1 := by unfold fitV; rw [if_neg (by rw [h1, h2]; simp), if_pos h]
theorem fit_ok {x y : WI} (h1 : x.ov = false) (h2 : y.ov = false) (h : ¬ y.sign ≤ 0) : fitV x y = 0 := by unfold fitV; rw [if_neg (by rw [h1, h2]; simp), if_neg h]
theorem sign_sz {y : WI} (h : ¬ y.sign ≤ 0) : y.sz ≠ 0 := by
  intro e
  apply h
  unfold WI.sign
  unfold WI.sz at e
  cases hv : y.v with
  | none => simp
  | some a =>
    rw [hv] at e
    simp only at e
    have : a = 0 := by omega
    subst this
    decide
theorem div_snd {x y : WI} (h1 : x.ov = false) (h2 : y.ov = false) (h : ¬ y.sign ≤ 0) : (x.div y).2 = 0 := by rw [WI.div_some x y h1 h2 (sign_sz h)]
theorem WI.neg_ov (x : WI) : x.neg.ov = x.ov := by
  unfold WI.neg
  cases hv : x.v with
  | none => unfold WI.ov; rw [hv]; rfl
  | some a =>
    simp only
    unfold WI.ov
    rw [WI.of_v (by rw [Int.natAbs_neg]; exact x.2 a hv), hv]; rfl
set_option maxRecDepth 100000 in
set_option maxHeartbeats 4000000 in
/-- Floor. -/
theorem floorB_r (a b : Value) (x y : WI) (w : World) (ha : BigIs w a x) (hb : BigIs w b y) :
    Calls Tryz.prog 64 #[a, b] w fun e w' => e = .returned (.tuple #[.int .i64 (floorV x y).1, .int .i64 (floorV x y).2]) ∧ Below w.heap.size w w' := by
  obtain ⟨na, oa, Aa, la, ka, rfl, ha⟩ := ha.lettered
  have Ca := Lib.hid ha
  clear ha
  obtain ⟨nb, ob, Ab, lb, kb, rfl, hb⟩ := hb.lettered
  have Cb := Lib.hid hb
  clear hb
  obtain ⟨-, hoa⟩ := Ca.out.flags
  obtain ⟨-, hob⟩ := Cb.out.flags
  clear ha hb
  obtain ⟨sg, hsg⟩ : ∃ s, y.sign = s := ⟨_, rfl⟩
  have HSG := Lib.hid hsg
  cases hx : x.ov with
  | true =>
    rw [hx] at hoa
    subst hoa
    have EV : Hid (floorV x y = (0, 2)) := by show _ = _; unfold floorV; rw [fit_ov (.inl hx), if_pos (by decide)]
    clear hsg
    go_enter Tryz.func64, Tryz.ntmps64
    go_wp2_with fail
    go_ret2
    exact ⟨by rw [EV.out]; rfl, below_by⟩
  | false =>
    rw [hx] at hoa
    subst hoa
    cases hy : y.ov with
    | true =>
      rw [hy] at hob
      subst hob
      have EV : Hid (floorV x y = (0, 2)) := by show _ = _; unfold floorV; rw [fit_ov (.inr hy), if_pos (by decide)]
      clear hsg
      go_enter Tryz.func64, Tryz.ntmps64
      go_wp2_with fail
      go_ret2
      exact ⟨by rw [EV.out]; rfl, below_by⟩
    | false =>
      rw [hy] at hob
      subst hob
      by_cases hs : y.sign ≤ 0
      · have EV : Hid (floorV x y = (0, 1)) := by show _ = _; unfold floorV; rw [fit_sg hx hy hs, if_pos (by decide)]
        rw [hsg] at hs
        clear hsg hx hy
        go_enter Tryz.func64, Tryz.ntmps64
        go_wp2_with fail
        obtain ⟨u0, hu0⟩ : ∃ u, u = ((w).alloc (Obj.cells #[.bool na, .bool false, .slice Aa la ka] 52)).alloc (Obj.cells #[.bool nb, .bool false, .slice Ab lb kb] 52) := ⟨_, rfl⟩
        rw [← hu0]
        have HB : Hid (Below w.heap.size w u0) := by rw [hu0]; show Below w.heap.size w _; exact below_byR
        have X0 : Hid (Blk u0 (w.heap.size) #[.bool na, .bool false, .slice Aa la ka] 52) := by rw [hu0]; exact (Blk.new' _ _ _ (by simp)).alloc _
        have X1 : Hid (Blk u0 (w.heap.size + 1) #[.bool nb, .bool false, .slice Ab lb kb] 52) := by rw [hu0]; exact Blk.new' _ _ _ (by simp)
        replace Ca := Lib.hid (Ca.out.below (show Below w.heap.size w u0 from HB.out))
        replace Cb := Lib.hid (Cb.out.below (show Below w.heap.size w u0 from HB.out))
        clear hu0
        refine Calls.mono (signB_v HSG Cb.out) ?_
        rintro e x1 ⟨rfl, hb⟩
        replace X0 := Lib.hid (X0.out.keep hb)
        replace X1 := Lib.hid (X1.out.keep hb)
        replace Ca := Lib.hid (Ca.out.below hb)
        replace Cb := Lib.hid (Cb.out.below hb)
        replace HB := Lib.hid (HB.out.trans (hb.mono HB.out.size))
        clear hb
        go_wp2_with fail
        go_ret2
        exact ⟨by rw [EV.out]; rfl, HB.out⟩
      · obtain ⟨q, hq⟩ : ∃ q, x.div y = (q, 0) := ⟨(x.div y).1, by rw [← div_snd hx hy hs]⟩
        have HQ := Lib.hid hq
        obtain ⟨n, ok, hn⟩ : ∃ n ok, q.i64 = (n, ok) := ⟨_, _, rfl⟩
        have HN := Lib.hid hn
        have EV : Hid (floorV x y = if ok = true then (n, 0) else (0, 2)) := by show _ = _; unfold floorV narrowV; rw [fit_ok hx hy hs, if_neg (by decide), hq, if_neg (by simp), hn]
        rw [hsg] at hs
        clear hsg hx hy hq hn
        go_enter Tryz.func64, Tryz.ntmps64
        go_wp2_with fail
        obtain ⟨u0, hu0⟩ : ∃ u, u = ((w).alloc (Obj.cells #[.bool na, .bool false, .slice Aa la ka] 52)).alloc (Obj.cells #[.bool nb, .bool false, .slice Ab lb kb] 52) := ⟨_, rfl⟩
        rw [← hu0]
        have HB : Hid (Below w.heap.size w u0) := by rw [hu0]; show Below w.heap.size w _; exact below_byR
        have X0 : Hid (Blk u0 (w.heap.size) #[.bool na, .bool false, .slice Aa la ka] 52) := by rw [hu0]; exact (Blk.new' _ _ _ (by simp)).alloc _
        have X1 : Hid (Blk u0 (w.heap.size + 1) #[.bool nb, .bool false, .slice Ab lb kb] 52) := by rw [hu0]; exact Blk.new' _ _ _ (by simp)
        replace Ca := Lib.hid (Ca.out.below (show Below w.heap.size w u0 from HB.out))
        replace Cb := Lib.hid (Cb.out.below (show Below w.heap.size w u0 from HB.out))
        clear hu0
        refine Calls.mono (signB_v HSG Cb.out) ?_
        rintro e x1 ⟨rfl, hb⟩
        replace X0 := Lib.hid (X0.out.keep hb)
        replace X1 := Lib.hid (X1.out.keep hb)
        replace Ca := Lib.hid (Ca.out.below hb)
        replace Cb := Lib.hid (Cb.out.below hb)
        replace HB := Lib.hid (HB.out.trans (hb.mono HB.out.size))
        clear hb
        have qX0_0 := X0.out.cell (i := 0) (v := .bool na) rfl
        have qX0_1 := X0.out.cell (i := 1) (v := .bool false) rfl
        have qX0_2 := X0.out.cell (i := 2) (v := .slice Aa la ka) rfl
        have rl_X0 := X0.out.lt
        have qX1_0 := X1.out.cell (i := 0) (v := .bool nb) rfl
        have qX1_1 := X1.out.cell (i := 1) (v := .bool false) rfl
        have qX1_2 := X1.out.cell (i := 2) (v := .slice Ab lb kb) rfl
        have rl_X1 := X1.out.lt
        go_wp2_with fail
        clear qX0_0 qX0_1 qX0_2 rl_X0 qX1_0 qX1_1 qX1_2 rl_X1
        refine Calls.mono (divB_v HQ Ca.out Cb.out) ?_
        rintro e x2 ⟨⟨v, rfl, hv⟩, hb⟩
        obtain ⟨nq, oq, Aq, lq, kq, rfl, hqq⟩ := hv.lettered
        have Cq := Lib.hid hqq
        clear hv hqq
        replace X0 := Lib.hid (X0.out.keep hb)
        replace X1 := Lib.hid (X1.out.keep hb)
        replace Ca := Lib.hid (Ca.out.below hb)
        replace Cb := Lib.hid (Cb.out.below hb)
        replace HB := Lib.hid (HB.out.trans (hb.mono HB.out.size))
        clear hb
        go_wp2_with fail
        obtain ⟨u3, hu⟩ : ∃ u, u = x2.alloc (Obj.cells #[.bool nq, .bool oq, .slice Aq lq kq] 52) := ⟨_, rfl⟩
        rw [← hu]
        obtain ⟨gX2, hg⟩ : ∃ g, x2.heap.size = g := ⟨_, rfl⟩
        have lt_X0_X2 : w.heap.size < gX2 := by rw [← hg]; exact X0.out.lt
        have lt_X1_X2 : w.heap.size + 1 < gX2 := by rw [← hg]; exact X1.out.lt
        have gw_X2 : w.heap.size ≤ gX2 := by rw [← hg]; exact HB.out.size
        have hb : Below x2.heap.size x2 u3 := by rw [hu]; exact (Below.refl _ _).alloc (Nat.le_refl _) _
        replace X0 := Lib.hid (X0.out.keep hb)
        replace X1 := Lib.hid (X1.out.keep hb)
        replace Ca := Lib.hid (Ca.out.below hb)
        replace Cb := Lib.hid (Cb.out.below hb)
        replace Cq := Lib.hid (Cq.out.below hb)
        replace HB := Lib.hid (HB.out.trans (hb.mono HB.out.size))
        clear hb
        have X2 : Hid (Blk u3 gX2 #[.bool nq, .bool oq, .slice Aq lq kq] 52) := by rw [hu, ← hg]; exact Blk.new _ _ _
        rw [hg]
        clear hu hg
        refine Calls.mono (i64B_v HN Cq.out) ?_
        rintro e x4 ⟨rfl, hb⟩
        replace X0 := Lib.hid (X0.out.keep hb)
        replace X1 := Lib.hid (X1.out.keep hb)
        replace X2 := Lib.hid (X2.out.keep hb)
        replace Ca := Lib.hid (Ca.out.below hb)
        replace Cb := Lib.hid (Cb.out.below hb)
        replace Cq := Lib.hid (Cq.out.below hb)
        replace HB := Lib.hid (HB.out.trans (hb.mono HB.out.size))
        clear hb
        cases ok with
        | true =>
          go_wp2_with fail
          go_ret2
          exact ⟨by rw [EV.out]; rfl, HB.out⟩
        | false =>
          go_wp2_with fail
          go_ret2
          exact ⟨by rw [EV.out]; rfl, HB.out⟩
set_option maxRecDepth 100000 in
set_option maxHeartbeats 4000000 in
/-- Ceil. -/
theorem ceilB_r (a b : Value) (x y : WI) (w : World) (ha : BigIs w a x) (hb : BigIs w b y) :
    Calls Tryz.prog 63 #[a, b] w fun e w' => e = .returned (.tuple #[.int .i64 (ceilV x y).1, .int .i64 (ceilV x y).2]) ∧ Below w.heap.size w w' := by
  obtain ⟨na, oa, Aa, la, ka, rfl, ha⟩ := ha.lettered
  have Ca := Lib.hid ha
  clear ha
  obtain ⟨nb, ob, Ab, lb, kb, rfl, hb⟩ := hb.lettered
  have Cb := Lib.hid hb
  clear hb
  obtain ⟨-, hoa⟩ := Ca.out.flags
  obtain ⟨-, hob⟩ := Cb.out.flags
  clear ha hb
  obtain ⟨sg, hsg⟩ : ∃ s, y.sign = s := ⟨_, rfl⟩
  have HSG := Lib.hid hsg
  cases hx : x.ov with
  | true =>
    rw [hx] at hoa
    subst hoa
    have EV : Hid (ceilV x y = (0, 2)) := by show _ = _; unfold ceilV; rw [fit_ov (.inl hx), if_pos (by decide)]
    clear hsg
    go_enter Tryz.func63, Tryz.ntmps63
    go_wp2_with fail
    go_ret2
    exact ⟨by rw [EV.out]; rfl, below_by⟩
  | false =>
    rw [hx] at hoa
    subst hoa
    cases hy : y.ov with
    | true =>
      rw [hy] at hob
      subst hob
      have EV : Hid (ceilV x y = (0, 2)) := by show _ = _; unfold ceilV; rw [fit_ov (.inr hy), if_pos (by decide)]
      clear hsg
      go_enter Tryz.func63, Tryz.ntmps63
      go_wp2_with fail
      go_ret2
      exact ⟨by rw [EV.out]; rfl, below_by⟩
    | false =>
      rw [hy] at hob
      subst hob
      by_cases hs : y.sign ≤ 0
      · have EV : Hid (ceilV x y = (0, 1)) := by show _ = _; unfold ceilV; rw [fit_sg hx hy hs, if_pos (by decide)]
        rw [hsg] at hs
        clear hsg hx hy
        go_enter Tryz.func63, Tryz.ntmps63
        go_wp2_with fail
        obtain ⟨u0, hu0⟩ : ∃ u, u = ((w).alloc (Obj.cells #[.bool na, .bool false, .slice Aa la ka] 52)).alloc (Obj.cells #[.bool nb, .bool false, .slice Ab lb kb] 52) := ⟨_, rfl⟩
        rw [← hu0]
        have HB : Hid (Below w.heap.size w u0) := by rw [hu0]; show Below w.heap.size w _; exact below_byR
        have X0 : Hid (Blk u0 (w.heap.size) #[.bool na, .bool false, .slice Aa la ka] 52) := by rw [hu0]; exact (Blk.new' _ _ _ (by simp)).alloc _
        have X1 : Hid (Blk u0 (w.heap.size + 1) #[.bool nb, .bool false, .slice Ab lb kb] 52) := by rw [hu0]; exact Blk.new' _ _ _ (by simp)
        replace Ca := Lib.hid (Ca.out.below (show Below w.heap.size w u0 from HB.out))
        replace Cb := Lib.hid (Cb.out.below (show Below w.heap.size w u0 from HB.out))
        clear hu0
        refine Calls.mono (signB_v HSG Cb.out) ?_
        rintro e x1 ⟨rfl, hb⟩
        replace X0 := Lib.hid (X0.out.keep hb)
        replace X1 := Lib.hid (X1.out.keep hb)
        replace Ca := Lib.hid (Ca.out.below hb)
        replace Cb := Lib.hid (Cb.out.below hb)
        replace HB := Lib.hid (HB.out.trans (hb.mono HB.out.size))
        clear hb
        go_wp2_with fail
        go_ret2
        exact ⟨by rw [EV.out]; rfl, HB.out⟩
      · obtain ⟨x2, hx2⟩ : ∃ z, x.neg = z := ⟨_, rfl⟩
        have HX2 := Lib.hid hx2
        have ho2 : x2.ov = false := by rw [← hx2, WI.neg_ov, hx]
        obtain ⟨q, hq⟩ : ∃ q, x2.div y = (q, 0) := ⟨(x2.div y).1, by rw [← div_snd ho2 hy hs]⟩
        have HQ := Lib.hid hq
        obtain ⟨q2, hq2⟩ : ∃ z, q.neg = z := ⟨_, rfl⟩
        have HQ2 := Lib.hid hq2
        obtain ⟨n, ok, hn⟩ : ∃ n ok, q2.i64 = (n, ok) := ⟨_, _, rfl⟩
        have HN := Lib.hid hn
        have EV : Hid (ceilV x y = if ok = true then (n, 0) else (0, 2)) := by show _ = _; unfold ceilV narrowV aboveV; rw [fit_ok hx hy hs, if_neg (by decide), hx2, hq, if_neg (by simp), hq2, hn]
        rw [hsg] at hs
        clear hsg hx hy hq hn hx2 hq2 ho2
        go_enter Tryz.func63, Tryz.ntmps63
        go_wp2_with fail
        obtain ⟨u0, hu0⟩ : ∃ u, u = ((w).alloc (Obj.cells #[.bool na, .bool false, .slice Aa la ka] 52)).alloc (Obj.cells #[.bool nb, .bool false, .slice Ab lb kb] 52) := ⟨_, rfl⟩
        rw [← hu0]
        have HB : Hid (Below w.heap.size w u0) := by rw [hu0]; show Below w.heap.size w _; exact below_byR
        have X0 : Hid (Blk u0 (w.heap.size) #[.bool na, .bool false, .slice Aa la ka] 52) := by rw [hu0]; exact (Blk.new' _ _ _ (by simp)).alloc _
        have X1 : Hid (Blk u0 (w.heap.size + 1) #[.bool nb, .bool false, .slice Ab lb kb] 52) := by rw [hu0]; exact Blk.new' _ _ _ (by simp)
        replace Ca := Lib.hid (Ca.out.below (show Below w.heap.size w u0 from HB.out))
        replace Cb := Lib.hid (Cb.out.below (show Below w.heap.size w u0 from HB.out))
        clear hu0
        refine Calls.mono (signB_v HSG Cb.out) ?_
        rintro e x1 ⟨rfl, hb⟩
        replace X0 := Lib.hid (X0.out.keep hb)
        replace X1 := Lib.hid (X1.out.keep hb)
        replace Ca := Lib.hid (Ca.out.below hb)
        replace Cb := Lib.hid (Cb.out.below hb)
        replace HB := Lib.hid (HB.out.trans (hb.mono HB.out.size))
        clear hb
        go_wp2_with fail
        go_cut [6, 7] from 10 (fun s6 s7 wc => ∃ g n o A l k, s6 = .pointer (some ⟨g, 0, none⟩) ∧ s7 = .int .i64 0 ∧ x1.heap.size ≤ g ∧ Hid (Blk wc g #[.bool n, .bool o, .slice A l k] 52) ∧ Hid (BigIs wc (.agg #[.bool n, .bool o, .slice A l k]) q) ∧ Hid (Below x1.heap.size x1 wc))
        case first =>
          have z0 := X0.out.lt
          have z1 := X1.out.lt
          have XX : Blk x1 w.heap.size #[.bool na, .bool false, .slice Aa la ka] 52 := X0.out
          have XU : Blk x1 (w.heap.size + 1) #[.bool nb, .bool false, .slice Ab lb kb] 52 := X1.out
          have r1 := big_cells XX
          have r2 := big_cells XU
          go_region_held3 (fun w' => (w'.cell? ⟨w.heap.size, 0, none⟩ = some (.bool na) ∧ w'.cell? ⟨w.heap.size, 1, none⟩ = some (.bool false) ∧ w'.cell? ⟨w.heap.size, 2, none⟩ = some (.slice Aa la ka)) ∧ (w'.cell? ⟨w.heap.size + 1, 0, none⟩ = some (.bool nb) ∧ w'.cell? ⟨w.heap.size + 1, 1, none⟩ = some (.bool false) ∧ w'.cell? ⟨w.heap.size + 1, 2, none⟩ = some (.slice Ab lb kb))) (first | with_reducible exact ⟨r1, r2⟩ | (refine ⟨?_, ?_⟩; (focus (with_reducible refine big_cells (t := 52) ?_; (repeat (first | with_reducible exact XX | with_reducible refine Blk.drew ?_ | with_reducible refine Blk.alloc ?_ _)))); (focus (with_reducible refine big_cells (t := 52) ?_; (repeat (first | with_reducible exact XU | with_reducible refine Blk.drew ?_ | with_reducible refine Blk.alloc ?_ _)))); done) | go_simp)
            (first
              | (go_at_call 60; refine Calls.mono (negB_v HX2 (Ca.out.below below_byR)) ?_; rintro e w4 ⟨⟨v4, rfl, hv4⟩, hb4⟩; obtain ⟨nx, ox, Ax, lx, kx, rfl, hxx⟩ := hv4.lettered; have XX : Blk w4 w.heap.size #[.bool na, .bool false, .slice Aa la ka] 52 := (by (with_reducible refine Blk.keep ?_ hb4); (repeat (first | with_reducible exact XX | with_reducible refine Blk.drew ?_ | with_reducible refine Blk.alloc ?_ _))); have XU : Blk w4 (w.heap.size + 1) #[.bool nb, .bool false, .slice Ab lb kb] 52 := (by (with_reducible refine Blk.keep ?_ hb4); (repeat (first | with_reducible exact XU | with_reducible refine Blk.drew ?_ | with_reducible refine Blk.alloc ?_ _))); have r1 := big_cells XX; have r2 := big_cells XU; have z_w4 := hb4.size; (try simp at z_w4); (try (refine with_imp (bk hb4 (x1.heap.size)) ?_ ?_; (focus (first | omega | (simp; done) | (simp; omega))); rintro ⟨y_w4_q0, c_w4_q0, f_w4_q0, r_w4_q0, t_w4_q0, p_w4_q0⟩)))
              | (go_at_call 120; refine Calls.mono (divB_v HQ (BigIs.below hxx below_byR) (Cb.out.below below_byR)) ?_; rintro e w5 ⟨⟨v5, rfl, hv5⟩, hb5⟩; obtain ⟨nq, oq, Aq, lq, kq, rfl, hqq⟩ := hv5.lettered; have XX : Blk w5 w.heap.size #[.bool na, .bool false, .slice Aa la ka] 52 := (by (with_reducible refine Blk.keep ?_ hb5); (repeat (first | with_reducible exact XX | with_reducible refine Blk.drew ?_ | with_reducible refine Blk.alloc ?_ _))); have XU : Blk w5 (w.heap.size + 1) #[.bool nb, .bool false, .slice Ab lb kb] 52 := (by (with_reducible refine Blk.keep ?_ hb5); (repeat (first | with_reducible exact XU | with_reducible refine Blk.drew ?_ | with_reducible refine Blk.alloc ?_ _))); have r1 := big_cells XX; have r2 := big_cells XU; have z_w5 := hb5.size; (try simp at z_w5); (try (refine with_imp (bk hb5 (x1.heap.size)) ?_ ?_; (focus (first | omega | (simp; done) | (simp; omega))); rintro ⟨y_w5_q0, c_w5_q0, f_w5_q0, r_w5_q0, t_w5_q0, p_w5_q0⟩)); (try (refine with_imp (bk hb5 (w4.heap.size)) ?_ ?_; (focus (first | omega | (simp; done) | (simp; omega))); rintro ⟨y_w5_q1, c_w5_q1, f_w5_q1, r_w5_q1, t_w5_q1, p_w5_q1⟩))))
          all_goals go_wp2_with fail
          all_goals go_meet
          rotate_left 2
          · have BN := ((Blk.new x1 #[.bool false, .bool false, .slice none 0 0] 52).drew.keep hb4).keep hb5
            refine ⟨_, _, _, _, _, _, rfl, rfl, ?_, Lib.hid (BN.set3 _ _ _), Lib.hid ?_, Lib.hid ?_⟩
            · omega
            · exact (hqq.only (OnlyAt.refl.set3 _ _ _) BN (big_no _ _ _ _ _))
            · exact below_byR
          · refine ⟨_, _, _, _, _, _, rfl, rfl, ?_, Lib.hid (Blk.new w5 _ _), Lib.hid (hqq.below ((Below.refl _ _).alloc (Nat.le_refl _) _)), Lib.hid ?_⟩
            · omega
            · exact below_byR
          · have BN := (Blk.new w4 #[.bool false, .bool false, .slice none 0 0] 52).keep hb5
            refine ⟨_, _, _, _, _, _, rfl, rfl, ?_, Lib.hid (BN.set3 _ _ _), Lib.hid ?_, Lib.hid ?_⟩
            · omega
            · exact (hqq.only (OnlyAt.refl.set3 _ _ _) BN (big_no _ _ _ _ _))
            · exact below_byR
        case rest =>
          obtain ⟨gX2, nq, oq, Aq, lq, kq, rfl, rfl, lg, BH, hCq, HC⟩ := hcut
          have hb := HC.out
          clear HC
          replace X0 := Lib.hid (X0.out.keep hb)
          replace X1 := Lib.hid (X1.out.keep hb)
          replace Ca := Lib.hid (Ca.out.below hb)
          replace Cb := Lib.hid (Cb.out.below hb)
          replace HB := Lib.hid (HB.out.trans (hb.mono HB.out.size))
          clear hb
          have Cq := hCq
          have X2 := BH
          clear hCq BH
          have qX2_0 := X2.out.cell (i := 0) (v := .bool nq) rfl
          have qX2_1 := X2.out.cell (i := 1) (v := .bool oq) rfl
          have qX2_2 := X2.out.cell (i := 2) (v := .slice Aq lq kq) rfl
          have rl_X2 := X2.out.lt
          go_wp2_with fail
          clear qX2_0 qX2_1 qX2_2 rl_X2
          refine Calls.mono (negB_v HQ2 Cq.out) ?_
          rintro e x2 ⟨⟨v, rfl, hv⟩, hb⟩
          obtain ⟨ny, oy, Ay, ly, ky, rfl, hy⟩ := hv.lettered
          have Cy := Lib.hid hy
          clear hv hy
          replace X0 := Lib.hid (X0.out.keep hb)
          replace X1 := Lib.hid (X1.out.keep hb)
          replace X2 := Lib.hid (X2.out.keep hb)
          replace Ca := Lib.hid (Ca.out.below hb)
          replace Cb := Lib.hid (Cb.out.below hb)
          replace Cq := Lib.hid (Cq.out.below hb)
          replace HB := Lib.hid (HB.out.trans (hb.mono HB.out.size))
          clear hb
          go_wp2_with fail
          refine Calls.mono (i64B_v HN Cy.out) ?_
          rintro e x3 ⟨rfl, hb⟩
          replace X0 := Lib.hid (X0.out.keep hb)
          replace X1 := Lib.hid (X1.out.keep hb)
          replace X2 := Lib.hid (X2.out.keep hb)
          replace Ca := Lib.hid (Ca.out.below hb)
          replace Cb := Lib.hid (Cb.out.below hb)
          replace Cq := Lib.hid (Cq.out.below hb)
          replace Cy := Lib.hid (Cy.out.below hb)
          replace HB := Lib.hid (HB.out.trans (hb.mono HB.out.size))
          clear hb
          cases ok with
          | true =>
            go_wp2_with fail
            go_ret2
            exact ⟨by rw [EV.out]; rfl, HB.out⟩
          | false =>
            go_wp2_with fail
            go_ret2
            exact ⟨by rw [EV.out]; rfl, HB.out⟩
theorem floorB_v {x y : WI} {n e : Int} (h : Hid (floorV x y = (n, e))) {a b : Value} {w : World} (ha : BigIs w a x) (hb : BigIs w b y) :
    Calls Tryz.prog 64 #[a, b] w fun r w' => r = .returned (.tuple #[.int .i64 n, .int .i64 e]) ∧ Below w.heap.size w w' := by
  have := floorB_r a b x y w ha hb
  rwa [h.out] at this
theorem ceilB_v {x y : WI} {n e : Int} (h : Hid (ceilV x y = (n, e))) {a b : Value} {w : World} (ha : BigIs w a x) (hb : BigIs w b y) :
    Calls Tryz.prog 63 #[a, b] w fun r w' => r = .returned (.tuple #[.int .i64 n, .int .i64 e]) ∧ Below w.heap.size w w' := by
  have := ceilB_r a b x y w ha hb
  rwa [h.out] at this
set_option maxRecDepth 100000 in
set_option maxHeartbeats 4000000 in
/-- Near. -/
theorem nearB_r (a b : Value) (x y : WI) (w : World) (ha : BigIs w a x) (hb : BigIs w b y) :
    Calls Tryz.prog 62 #[a, b] w fun e w' => e = .returned (.tuple #[.int .i64 (nearV x y).1, .int .i64 (nearV x y).2]) ∧ Below w.heap.size w w' := by
  obtain ⟨na, oa, Aa, la, ka, rfl, ha⟩ := ha.lettered
  have Ca := Lib.hid ha
  clear ha
  obtain ⟨nb, ob, Ab, lb, kb, rfl, hb⟩ := hb.lettered
  have Cb := Lib.hid hb
  clear hb
  obtain ⟨-, hoa⟩ := Ca.out.flags
  obtain ⟨-, hob⟩ := Cb.out.flags
  clear ha hb
  obtain ⟨sg, hsg⟩ : ∃ s, y.sign = s := ⟨_, rfl⟩
  have HSG := Lib.hid hsg
  cases hx : x.ov with
  | true =>
    rw [hx] at hoa
    subst hoa
    have EV : Hid (nearV x y = (0, 2)) := by show _ = _; unfold nearV; rw [fit_ov (.inl hx), if_pos (by decide)]
    clear hsg
    go_enter Tryz.func62, Tryz.ntmps62
    go_wp2_with fail
    go_ret2
    exact ⟨by rw [EV.out]; rfl, below_by⟩
  | false =>
    rw [hx] at hoa
    subst hoa
    cases hy : y.ov with
    | true =>
      rw [hy] at hob
      subst hob
      have EV : Hid (nearV x y = (0, 2)) := by show _ = _; unfold nearV; rw [fit_ov (.inr hy), if_pos (by decide)]
      clear hsg
      go_enter Tryz.func62, Tryz.ntmps62
      go_wp2_with fail
      go_ret2
      exact ⟨by rw [EV.out]; rfl, below_by⟩
    | false =>
      rw [hy] at hob
      subst hob
      by_cases hs : y.sign ≤ 0
      · have EV : Hid (nearV x y = (0, 1)) := by show _ = _; unfold nearV; rw [fit_sg hx hy hs, if_pos (by decide)]
        rw [hsg] at hs
        clear hsg hx hy
        go_enter Tryz.func62, Tryz.ntmps62
        go_wp2_with fail
        obtain ⟨u0, hu0⟩ : ∃ u, u = ((w).alloc (Obj.cells #[.bool na, .bool false, .slice Aa la ka] 52)).alloc (Obj.cells #[.bool nb, .bool false, .slice Ab lb kb] 52) := ⟨_, rfl⟩
        rw [← hu0]
        have HB : Hid (Below w.heap.size w u0) := by rw [hu0]; show Below w.heap.size w _; exact below_byR
        have X0 : Hid (Blk u0 (w.heap.size) #[.bool na, .bool false, .slice Aa la ka] 52) := by rw [hu0]; exact (Blk.new' _ _ _ (by simp)).alloc _
        have X1 : Hid (Blk u0 (w.heap.size + 1) #[.bool nb, .bool false, .slice Ab lb kb] 52) := by rw [hu0]; exact Blk.new' _ _ _ (by simp)
        replace Ca := Lib.hid (Ca.out.below (show Below w.heap.size w u0 from HB.out))
        replace Cb := Lib.hid (Cb.out.below (show Below w.heap.size w u0 from HB.out))
        clear hu0
        refine Calls.mono (signB_v HSG Cb.out) ?_
        rintro e x1 ⟨rfl, hb⟩
        replace X0 := Lib.hid (X0.out.keep hb)
        replace X1 := Lib.hid (X1.out.keep hb)
        replace Ca := Lib.hid (Ca.out.below hb)
        replace Cb := Lib.hid (Cb.out.below hb)
        replace HB := Lib.hid (HB.out.trans (hb.mono HB.out.size))
        clear hb
        go_wp2_with fail
        go_ret2
        exact ⟨by rw [EV.out]; rfl, HB.out⟩
      · obtain ⟨z1, h1⟩ : ∃ z, x.add x = z := ⟨_, rfl⟩
        obtain ⟨z2, h2⟩ : ∃ z, z1.add y = z := ⟨_, rfl⟩
        obtain ⟨z3, h3⟩ : ∃ z, y.add y = z := ⟨_, rfl⟩
        obtain ⟨n, k, h4⟩ : ∃ n k, floorV z2 z3 = (n, k) := ⟨_, _, rfl⟩
        have EV : Hid (nearV x y = (n, k)) := by show _ = _; unfold nearV; rw [fit_ok hx hy hs, if_neg (by decide), h1, h2, h3, h4]
        have H1 := Lib.hid h1
        have H2 := Lib.hid h2
        have H3 := Lib.hid h3
        have H4 := Lib.hid h4
        rw [hsg] at hs
        clear hsg hx hy h1 h2 h3 h4
        go_enter Tryz.func62, Tryz.ntmps62
        go_wp2_with fail
        obtain ⟨u0, hu0⟩ : ∃ u, u = ((w).alloc (Obj.cells #[.bool na, .bool false, .slice Aa la ka] 52)).alloc (Obj.cells #[.bool nb, .bool false, .slice Ab lb kb] 52) := ⟨_, rfl⟩
        rw [← hu0]
        have HB : Hid (Below w.heap.size w u0) := by rw [hu0]; show Below w.heap.size w _; exact below_byR
        have X0 : Hid (Blk u0 (w.heap.size) #[.bool na, .bool false, .slice Aa la ka] 52) := by rw [hu0]; exact (Blk.new' _ _ _ (by simp)).alloc _
        have X1 : Hid (Blk u0 (w.heap.size + 1) #[.bool nb, .bool false, .slice Ab lb kb] 52) := by rw [hu0]; exact Blk.new' _ _ _ (by simp)
        replace Ca := Lib.hid (Ca.out.below (show Below w.heap.size w u0 from HB.out))
        replace Cb := Lib.hid (Cb.out.below (show Below w.heap.size w u0 from HB.out))
        clear hu0
        refine Calls.mono (signB_v HSG Cb.out) ?_
        rintro e x1 ⟨rfl, hb⟩
        replace X0 := Lib.hid (X0.out.keep hb)
        replace X1 := Lib.hid (X1.out.keep hb)
        replace Ca := Lib.hid (Ca.out.below hb)
        replace Cb := Lib.hid (Cb.out.below hb)
        replace HB := Lib.hid (HB.out.trans (hb.mono HB.out.size))
        clear hb
        go_wp2_with fail
        have qX0_0 := @inh_cell _ _ _ (show x1.cell? _ = some (.bool na) from X0.out.cell (i := 0) rfl)
        have qX0_1 := @inh_cell _ _ _ (show x1.cell? _ = some (.bool false) from X0.out.cell (i := 1) rfl)
        have qX0_2 := @inh_cell _ _ _ (show x1.cell? _ = some (.slice Aa la ka) from X0.out.cell (i := 2) rfl)
        have qX1_0 := @inh_cell _ _ _ (show x1.cell? _ = some (.bool nb) from X1.out.cell (i := 0) rfl)
        have qX1_1 := @inh_cell _ _ _ (show x1.cell? _ = some (.bool false) from X1.out.cell (i := 1) rfl)
        have qX1_2 := @inh_cell _ _ _ (show x1.cell? _ = some (.slice Ab lb kb) from X1.out.cell (i := 2) rfl)
        have HL : Hid (Below x1.heap.size x1 x1.drew) := (Below.refl _ _).drew
        refine wp_region_ghost' 13 (fun k => match k with | 2 => some (gBig z1) | 4 => some (gBig z2) | 7 => some (gBig z3) | _ => none) (fun k => match k with | 4 => [2] | 8 => [4, 7] | _ => []) (by kernel_rfl) (by kernel_rfl) ?_; refine ex_listH ?_; apply Exists.intro; refine ex_listH ?_; apply Exists.intro; refine ex_listH ⟨undef, ?_⟩; refine ex_listH ?_; apply Exists.intro; refine ex_listH ⟨undef, ?_⟩; refine ex_listH ?_; apply Exists.intro; refine ex_listH ?_; apply Exists.intro; refine ex_listH ⟨undef, ?_⟩; refine ex_listH ?_; apply Exists.intro; refine ex_listH ?_; apply Exists.intro; refine ex_listH ?_; apply Exists.intro; refine ex_listH ?_; apply Exists.intro; refine ex_listH ?_; apply Exists.intro; refine ⟨[], fun gg NN hN => ?_⟩; simp only [List.append_eq, List.cons_append, List.nil_append, List.take_succ_cons, List.take_zero, List.drop_succ_cons, List.drop_zero]; (repeat (refine lexH_quiet rfl ?_; go_big_quiet_step (first | exact rfl | ((rename_i px; go_at_call 64; exact calls_inh (floorB_v H4 (px.has 4 (hN 8 4 (by simp)) _ rfl) (px.has 7 (hN 8 7 (by simp)) _ rfl))))); refine wpQuiet_nil ⟨?hd, ?_⟩; (case hd => (simp only [dstVh, Array.getD_eq_getD_getElem?, List.getElem?_toArray, List.getElem?_cons_zero, List.getElem?_cons_succ, Option.getD_some, List.getD_cons_zero, List.getD_cons_succ]; exact rfl)))); (refine lexH_ghost _ (by rfl) (by rfl) ?hex ?_; (case hex => (intro px; refine ghost_call (fn := 43) (by go_simp; rfl) ?_; exact add_x _ _ _ _ _ _ H1 (Ca.out.below (inh_low HL.out px)) (Ca.out.below (inh_low HL.out px)))); simp only [Act.put, List.setIfInBounds_toArray, List.set_cons_succ, List.set_cons_zero]); (refine lexH_quiet rfl ?_; go_big_quiet_step (first | exact rfl | ((rename_i px; go_at_call 64; exact calls_inh (floorB_v H4 (px.has 4 (hN 8 4 (by simp)) _ rfl) (px.has 7 (hN 8 7 (by simp)) _ rfl))))); refine wpQuiet_nil ⟨?hd, ?_⟩; (case hd => (simp only [dstVh, Array.getD_eq_getD_getElem?, List.getElem?_toArray, List.getElem?_cons_zero, List.getElem?_cons_succ, Option.getD_some, List.getD_cons_zero, List.getD_cons_succ]; exact rfl))); (refine lexH_ghost _ (by rfl) (by rfl) ?hex ?_; (case hex => (intro px; refine ghost_call (fn := 43) (by go_simp; rfl) ?_; exact add_x _ _ _ _ _ _ H2 (px.has 2 (hN 4 2 (by simp)) _ rfl) (Cb.out.below (inh_low HL.out px)))); simp only [Act.put, List.setIfInBounds_toArray, List.set_cons_succ, List.set_cons_zero]); (repeat (refine lexH_quiet rfl ?_; go_big_quiet_step (first | exact rfl | ((rename_i px; go_at_call 64; exact calls_inh (floorB_v H4 (px.has 4 (hN 8 4 (by simp)) _ rfl) (px.has 7 (hN 8 7 (by simp)) _ rfl))))); refine wpQuiet_nil ⟨?hd, ?_⟩; (case hd => (simp only [dstVh, Array.getD_eq_getD_getElem?, List.getElem?_toArray, List.getElem?_cons_zero, List.getElem?_cons_succ, Option.getD_some, List.getD_cons_zero, List.getD_cons_succ]; exact rfl)))); (refine lexH_ghost _ (by rfl) (by rfl) ?hex ?_; (case hex => (intro px; refine ghost_call (fn := 43) (by go_simp; rfl) ?_; exact add_x _ _ _ _ _ _ H3 (Cb.out.below (inh_low HL.out px)) (Cb.out.below (inh_low HL.out px)))); simp only [Act.put, List.setIfInBounds_toArray, List.set_cons_succ, List.set_cons_zero]); (repeat (refine lexH_quiet rfl ?_; go_big_quiet_step (first | exact rfl | ((rename_i px; go_at_call 64; exact calls_inh (floorB_v H4 (px.has 4 (hN 8 4 (by simp)) _ rfl) (px.has 7 (hN 8 7 (by simp)) _ rfl))))); refine wpQuiet_nil ⟨?hd, ?_⟩; (case hd => (simp only [dstVh, Array.getD_eq_getD_getElem?, List.getElem?_toArray, List.getElem?_cons_zero, List.getElem?_cons_succ, Option.getD_some, List.getD_cons_zero, List.getD_cons_succ]; exact rfl))))
        refine lexH_nil ?_
        intro x2 hb' hh
        have hb : Below x1.heap.size x1 x2 := hb'
        clear hb' HL hh
        clear qX0_0 qX0_1 qX0_2 qX1_0 qX1_1 qX1_2
        replace X0 := Lib.hid (X0.out.keep hb)
        replace X1 := Lib.hid (X1.out.keep hb)
        replace Ca := Lib.hid (Ca.out.below hb)
        replace Cb := Lib.hid (Cb.out.below hb)
        replace HB := Lib.hid (HB.out.trans (hb.mono HB.out.size))
        clear hb
        refine wpList_nil ?_
        go_wp2_with fail
        go_ret2
        exact ⟨by rw [EV.out]; rfl, HB.out⟩
theorem nearB_v {x y : WI} {n e : Int} (h : Hid (nearV x y = (n, e))) {a b : Value} {w : World} (ha : BigIs w a x) (hb : BigIs w b y) :
    Calls Tryz.prog 62 #[a, b] w fun r w' => r = .returned (.tuple #[.int .i64 n, .int .i64 e]) ∧ Below w.heap.size w w' := by
  have := nearB_r a b x y w ha hb
  rwa [h.out] at this
end Go.Proofs.YtnoidlacjiafdaaGreat
