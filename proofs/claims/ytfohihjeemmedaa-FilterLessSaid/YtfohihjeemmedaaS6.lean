/- The plain law of FilterLess. -/
import Derived.Test.YtfohihjeemmedaaS4
import Derived.Test.YtfohihjeemmedaaSl
namespace Go.Proofs.Ytfohihjeemmedaa
open Go.RowKit

/-- What is always so of a filter. -/
structure FI (m : Int) (v : Bool) (e : El) : Prop where
  may : e.may = v
  zero : v = false → e = El.zero
  tr : e.tr ≤ m
theorem zero_may : El.zero.may = false := rfl
theorem zero_tr : El.zero.tr = 0 := rfl
theorem fi_lost {m : Int} (hm : 2 ≤ m) : FI m false El.zero := ⟨rfl, fun _ => rfl, by rw [zero_tr]; omega⟩
theorem fi_set {m : Int} {v v1 : Bool} {e f e1 : El} {k : Int} (h : FI m v e) (hs : setS m v e f = ((v1, e1), k)) : FI m v1 e1 := by
  unfold setS at hs
  split at hs
  · rename_i hf
    split at hs
    · injection hs with h1 _; injection h1 with h2 h3; subst h2; subst h3; exact h
    · rename_i ht
      injection hs with h1 _; injection h1 with h2 h3; subst h2; subst h3
      exact ⟨hf, fun h => (by cases h), by omega⟩
  · injection hs with h1 _; injection h1 with h2 h3; subst h2; subst h3; exact h
theorem fi_move {m : Int} (hm : 2 ≤ m) {v v1 : Bool} {e e1 : El} {u w r k : Int} (h : FI m v e) (hs : moveS m v e u w r = ((v1, e1), k)) : FI m v1 e1 := by
  have same : ∀ {z : Int}, ((v, e), z) = ((v1, e1), k) → FI m v1 e1 := by
    intro z h0; injection h0 with h1 _; injection h1 with h2 h3; subst h2; subst h3; exact h
  have lost : ∀ {z : Int}, ((false, El.zero), z) = ((v1, e1), k) → FI m v1 e1 := by
    intro z h0; injection h0 with h1 _; injection h1 with h2 h3; subst h2; subst h3; exact fi_lost hm
  unfold moveS at hs
  split at hs
  · split at hs
    · split at hs
      · split at hs
        · exact lost hs
        · exact fi_set h hs
      · split at hs
        · exact lost hs
        · exact same hs
    · split at hs
      · exact lost hs
      · exact same hs
  · exact same hs
theorem fi_take {m : Int} (hm : 2 ≤ m) {v1 : Bool} {e f e1 : El} {k k1 : Int} (h : FI m true e) (hf : k = 0 → f.may = true ∧ f.tr ≤ e.tr) (hs : takeS true e f k = ((v1, e1), k1)) : FI m v1 e1 ∧ (v1 = true → e1.tr ≤ e.tr) := by
  unfold takeS at hs
  split at hs
  · rename_i h0
    injection hs with h1 _; injection h1 with h2 h3; subst h2; subst h3
    obtain ⟨a, b⟩ := hf h0
    exact ⟨⟨a, fun h => (by cases h), Int.le_trans b h.tr⟩, fun _ => b⟩
  · split at hs
    · injection hs with h1 _; injection h1 with h2 h3; subst h2; subst h3
      exact ⟨fi_lost hm, fun h => (by cases h)⟩
    · injection hs with h1 _; injection h1 with h2 h3; subst h2; subst h3
      exact ⟨h, fun _ => Int.le_refl _⟩
theorem fi_meet {m : Int} (hm : 2 ≤ m) {v v1 : Bool} {e f e1 : El} {k : Int} (h : FI m v e) (hs : meetS m v e f = ((v1, e1), k)) : FI m v1 e1 ∧ (v = true → v1 = true → e1.tr ≤ e.tr) := by
  unfold meetS at hs
  split at hs
  · rename_i hv
    subst hv
    have := fi_take hm h (by
      intro h0
      cases hf : f.may with
      | false => rw [gfuse_no _ _ (.inr hf)] at h0; cases h0
      | true =>
        rcases gholds e f h.may hf 0 0 (g := (gfuseE e f).1) (k := (gfuseE e f).2) rfl with ⟨h3, -⟩ | ⟨-, -, a, b, -⟩
        · rw [h0] at h3; cases h3
        · exact ⟨a, b⟩) hs
    exact ⟨this.1, fun _ => this.2⟩
  · rename_i hv
    exact ⟨fi_set h hs, fun h0 => absurd h0 hv⟩
theorem fi_range {m : Int} (hm : 2 ≤ m) {v v1 : Bool} {e n e1 : El} {lo hi k : Int} (h : FI m v e) (hs : rangeS m v e n lo hi = ((v1, e1), k)) : FI m v1 e1 ∧ (v = true → v1 = true → e1.tr ≤ e.tr) := by
  unfold rangeS at hs
  split at hs
  · rename_i hv
    subst hv
    have := fi_take hm h (by
      intro h0
      by_cases hc : n.may = true ∧ mayRange lo hi = true
      · rcases upd_less h.may hc.1 hc.2 (o := (updE e n lo hi).1) (k := (updE e n lo hi).2) rfl with ⟨h3, -⟩ | ⟨-, a, b⟩
        · rw [h0] at h3; cases h3
        · exact ⟨a, b⟩
      · have : n.may = false ∨ mayRange lo hi = false := by
          cases a : n.may <;> cases b : mayRange lo hi <;> simp_all
        rw [upd_no _ _ _ _ (.inr this)] at h0; cases h0) hs
    exact ⟨this.1, fun _ => this.2⟩
  · rename_i hv
    split at hs
    · exact ⟨fi_set h hs, fun h0 => absurd h0 hv⟩
    · injection hs with h1 _; injection h1 with h2 h3; subst h2; subst h3
      exact ⟨h, fun h0 => absurd h0 hv⟩
set_option maxRecDepth 100000 in
set_option maxHeartbeats 16000000 in
theorem filterLess_c (most : Int) (A : Option Addr) (len cap : Nat) (T : Nat → CallT) (w : World) (hT : CallsAt w A len T) (hlen : len ≤ 9223372036854775807) :
    Calls Try.prog 8 #[.int .i64 most, .slice A len cap] w fun e w' => e = .returned (.bool true) ∧ Below w.heap.size w w' := by
  have HT := Lib.hid hT
  clear hT
  obtain ⟨m, hm⟩ : ∃ m, max 2 most = m := ⟨_, rfl⟩
  have m2 : 2 ≤ m := by omega
  go_enter Try.func8, Try.ntmps8
  go_wp2_with fail
  refine (new_c _ _).mono ?_; rintro e w1 ⟨g, rfl, lg, B1, hb1⟩
  rw [hm] at B1
  have G := Lib.hid B1
  have HB := Lib.hid hb1
  have s1 := hb1.size
  clear B1 hb1
  go_wp2_with fail
  (try simp only [hm])
  clear hm
  go_loopw [17] (fun ti wr => ∃ (k : Nat) (v : Bool) (x y a b d : Int), k ≤ len ∧ ti = .int .i64 k ∧ Hid (FI m v ⟨x, y, a, b, d⟩) ∧ Hid (Blk wr g (flt m v x y a b d) 75) ∧ Hid (Below w.heap.size w wr)) (fun ti _ => len - (intOf ti).toNat)
  case atStart => exact ⟨0, false, 0, 0, 0, 0, 0, by omega, rfl, fi_lost m2, G.out, HB.out⟩
  case round =>
    obtain ⟨k, v, x, y, a, b, d, hk, rfl, HI, G, HB⟩ := hrel
    have sr := HB.out.size
    have lgr := G.out.lt
    by_cases hlt : k < len
    · obtain ⟨mb, mo, rfl, hmb, hc⟩ := HT.out k hlt
      obtain ⟨⟨cn, cx, cy, ca, cb, cd, cp, cq, cr, cl, cg⟩, hTk⟩ : ∃ z, T k = z := ⟨_, rfl⟩
      rw [hTk] at hc
      have q0 : wr.cell? ⟨mb, mo + k * 11, none⟩ = some (.int .i64 cn) := (HB.out.cell (p := ⟨mb, mo + k * 11, none⟩) hmb).trans (hc 0 _ rfl)
      have q1 : wr.cell? ⟨mb, mo + k * 11 + 1, none⟩ = some (.int .i64 cx) := (HB.out.cell (p := ⟨mb, mo + k * 11 + 1, none⟩) hmb).trans (hc 1 _ rfl)
      have q2 : wr.cell? ⟨mb, mo + k * 11 + 2, none⟩ = some (.int .i64 cy) := (HB.out.cell (p := ⟨mb, mo + k * 11 + 2, none⟩) hmb).trans (hc 2 _ rfl)
      have q3 : wr.cell? ⟨mb, mo + k * 11 + 3, none⟩ = some (.int .i64 ca) := (HB.out.cell (p := ⟨mb, mo + k * 11 + 3, none⟩) hmb).trans (hc 3 _ rfl)
      have q4 : wr.cell? ⟨mb, mo + k * 11 + 4, none⟩ = some (.int .i64 cb) := (HB.out.cell (p := ⟨mb, mo + k * 11 + 4, none⟩) hmb).trans (hc 4 _ rfl)
      have q5 : wr.cell? ⟨mb, mo + k * 11 + 5, none⟩ = some (.int .i64 cd) := (HB.out.cell (p := ⟨mb, mo + k * 11 + 5, none⟩) hmb).trans (hc 5 _ rfl)
      have q6 : wr.cell? ⟨mb, mo + k * 11 + 6, none⟩ = some (.int .i64 cp) := (HB.out.cell (p := ⟨mb, mo + k * 11 + 6, none⟩) hmb).trans (hc 6 _ rfl)
      have q7 : wr.cell? ⟨mb, mo + k * 11 + 7, none⟩ = some (.int .i64 cq) := (HB.out.cell (p := ⟨mb, mo + k * 11 + 7, none⟩) hmb).trans (hc 7 _ rfl)
      have q8 : wr.cell? ⟨mb, mo + k * 11 + 8, none⟩ = some (.int .i64 cr) := (HB.out.cell (p := ⟨mb, mo + k * 11 + 8, none⟩) hmb).trans (hc 8 _ rfl)
      have q9 : wr.cell? ⟨mb, mo + k * 11 + 9, none⟩ = some (.int .i64 cl) := (HB.out.cell (p := ⟨mb, mo + k * 11 + 9, none⟩) hmb).trans (hc 9 _ rfl)
      have q10 : wr.cell? ⟨mb, mo + k * 11 + 10, none⟩ = some (.int .i64 cg) := (HB.out.cell (p := ⟨mb, mo + k * 11 + 10, none⟩) hmb).trans (hc 10 _ rfl)
      have mb1 : mb < wr.heap.size := Nat.lt_of_lt_of_le hmb sr
      have k1 : (k : Int) < len := by omega
      have k2 : (0 : Int) ≤ k := by omega
      clear hc hTk
      by_cases h40 : k < 40
      · have k3 : ¬ (40 : Int) ≤ k := by omega
        obtain ⟨t, ht⟩ : ∃ t, El.tr ⟨x, y, a, b, d⟩ = t := ⟨_, rfl⟩
        have HTR := Lib.hid ht
        clear ht
        obtain ⟨w0, hw0⟩ : ∃ w0, w0 = wr.alloc (Obj.cells #[.int .i64 cn, .int .i64 cx, .int .i64 cy, .int .i64 ca, .int .i64 cb, .int .i64 cd, .int .i64 cp, .int .i64 cq, .int .i64 cr, .int .i64 cl, .int .i64 cg] 51) := ⟨_, rfl⟩
        go_wp2_with fail
        rw [← hw0]
        have C : Hid (Blk w0 wr.heap.size #[.int .i64 cn, .int .i64 cx, .int .i64 cy, .int .i64 ca, .int .i64 cb, .int .i64 cd, .int .i64 cp, .int .i64 cq, .int .i64 cr, .int .i64 cl, .int .i64 cg] 51) := by rw [hw0]; exact Blk.new _ _ _
        have G := (show Hid (Blk w0 g (flt m v x y a b d) 75) from by rw [hw0]; exact G.out.alloc _)
        have HB : Hid (Below w.heap.size w w0) := by have hbw := HB.out; rw [hw0]; exact (show Below _ _ _ from (by repeat (first | with_reducible exact Below.refl _ _ | with_reducible exact Below_of_hid (by assumption) | with_reducible refine Below.drew ?_ | with_reducible refine below_drewN ?_ _ | (with_reducible refine Below_putRow ?_ ?hB _ _; case hB => (first | omega | (simp; done) | (simp; omega))) | (with_reducible refine Below.alloc ?_ ?hB _; case hB => (first | omega | (simp; done) | (simp; omega))) | (with_reducible refine Below.setCell ?_ ?hB _; case hB => (first | omega | (simp; done) | (simp; omega))) | (with_reducible refine Below.trans ?_ (Below.mono (by assumption) ?hB); case hB => (first | omega | (simp; done) | (simp; omega))))))
        clear hw0 q0 q1 q2 q3 q4 q5 q6 q7 q8 q9 q10
        have ng : ¬ (wr.heap.size = g) := by omega
        have lw : w.heap.size ≤ g := by omega
        cases v with
        | false =>
          refine (valid_c g m false x y a b d _ G.out).mono ?_; rintro e w1 ⟨rfl, hb1⟩
          have G := Lib.hid (G.out.keep hb1)
          have C := Lib.hid (C.out.keep hb1)
          have HB : Hid (Below w.heap.size w w1) := Below.trans HB.out (hb1.mono HB.out.size)
          clear hb1
          go_wp2_with fail
          refine (e_c g m false x y a b d _ G.out).mono ?_; rintro e w2 ⟨rfl, hb2⟩
          have G := Lib.hid (G.out.keep hb2)
          have C := Lib.hid (C.out.keep hb2)
          have HB : Hid (Below w.heap.size w w2) := Below.trans HB.out (hb2.mono HB.out.size)
          clear hb2
          go_wp2_with fail
          refine (trace_v x y a b d _ HTR.out _).mono ?_; rintro e w3 ⟨rfl, hb3⟩
          have G := Lib.hid (G.out.keep hb3)
          have C := Lib.hid (C.out.keep hb3)
          have HB : Hid (Below w.heap.size w w3) := Below.trans HB.out (hb3.mono HB.out.size)
          clear hb3
          obtain ⟨y0, c0, f0, -⟩ := bk_o C.out
          have hcn : cn = 0 ∨ cn = 1 ∨ cn = 2 ∨ cn = 3 ∨ (¬ cn = 0 ∧ ¬ cn = 1 ∧ ¬ cn = 2 ∧ ¬ cn = 3) := by omega
          rcases hcn with rfl | rfl | rfl | rfl | ⟨d0, d1, d2, d3⟩
          · go_wp2_with fail
            refine Calls.mono (set_c g m false x y a b d cx cy ca cb cd _ G.out) ?_; rintro e w4 ⟨v1, ⟨x1, y1, a1, b1, d1⟩, kk, hs, rfl, ho, hb⟩
            have FF := fi_set HI.out hs
            have F1 := FF
            have I1 := Lib.hid F1
            have C := Lib.hid (ho.blk C.out ng)
            have HB : Hid (Below w.heap.size w w4) := OnlyAt.below ho HB.out (Nat.le_refl _) lw
            have G := Lib.hid hb
            obtain ⟨t1, ht1⟩ : ∃ t, El.tr ⟨x1, y1, a1, b1, d1⟩ = t := ⟨_, rfl⟩
            have top : ¬ m < t1 := by have := F1.tr; omega
            have HT1 := Lib.hid ht1
            have MY := Lib.hid F1.may
            have Z := F1.zero
            clear hs FF ho hb ht1 y0 c0 f0
            cases v1 with
            | false =>
              have hz := Z rfl
              injection hz with z1 z2 z3 z4 z5
              subst z1; subst z2; subst z3; subst z4; subst z5
              clear Z
              go_wp2_with fail
              refine (valid_c g m false 0 0 0 0 0 _ G.out).mono ?_; rintro e w5 ⟨rfl, hb5⟩
              have G := Lib.hid (G.out.keep hb5)
              have C := Lib.hid (C.out.keep hb5)
              have HB : Hid (Below w.heap.size w w5) := Below.trans HB.out (hb5.mono HB.out.size)
              clear hb5
              go_wp2_with fail
              refine (e_c g m false 0 0 0 0 0 _ G.out).mono ?_; rintro e w6 ⟨rfl, hb6⟩
              have G := Lib.hid (G.out.keep hb6)
              have C := Lib.hid (C.out.keep hb6)
              have HB : Hid (Below w.heap.size w w6) := Below.trans HB.out (hb6.mono HB.out.size)
              clear hb6
              go_wp2_with fail
              refine (ellmay_v 0 0 0 0 0 false MY.out _).mono ?_; rintro e w7 ⟨rfl, hb7⟩
              have G := Lib.hid (G.out.keep hb7)
              have C := Lib.hid (C.out.keep hb7)
              have HB : Hid (Below w.heap.size w w7) := Below.trans HB.out (hb7.mono HB.out.size)
              clear hb7
              go_wp2_with fail
              refine (valid_c g m false 0 0 0 0 0 _ G.out).mono ?_; rintro e w8 ⟨rfl, hb8⟩
              have G := Lib.hid (G.out.keep hb8)
              have C := Lib.hid (C.out.keep hb8)
              have HB : Hid (Below w.heap.size w w8) := Below.trans HB.out (hb8.mono HB.out.size)
              clear hb8
              go_wp2_with fail
              refine (e_c g m false 0 0 0 0 0 _ G.out).mono ?_; rintro e w9 ⟨rfl, hb9⟩
              have G := Lib.hid (G.out.keep hb9)
              have C := Lib.hid (C.out.keep hb9)
              have HB : Hid (Below w.heap.size w w9) := Below.trans HB.out (hb9.mono HB.out.size)
              clear hb9
              go_wp2_with fail
              refine (e_c g m false 0 0 0 0 0 _ G.out).mono ?_; rintro e w10 ⟨rfl, hb10⟩
              have G := Lib.hid (G.out.keep hb10)
              have C := Lib.hid (C.out.keep hb10)
              have HB : Hid (Below w.heap.size w w10) := Below.trans HB.out (hb10.mono HB.out.size)
              clear hb10
              go_wp2_with fail
              refine (trace_v 0 0 0 0 0 _ HT1.out _).mono ?_; rintro e w11 ⟨rfl, hb11⟩
              have G := Lib.hid (G.out.keep hb11)
              have C := Lib.hid (C.out.keep hb11)
              have HB : Hid (Below w.heap.size w w11) := Below.trans HB.out (hb11.mono HB.out.size)
              clear hb11
              go_wp2_with fail
              have hbw := HB.out
              have sw := hbw.size
              go_roundw
              case rel => exact ⟨k + 1, false, 0, 0, 0, 0, 0, by omega, by go_num, I1, G.out, HB.out⟩
              case measure => simp [intOf]; omega
            | true =>
              clear Z
              go_wp2_with fail
              refine (valid_c g m true x1 y1 a1 b1 d1 _ G.out).mono ?_; rintro e w5 ⟨rfl, hb5⟩
              have G := Lib.hid (G.out.keep hb5)
              have C := Lib.hid (C.out.keep hb5)
              have HB : Hid (Below w.heap.size w w5) := Below.trans HB.out (hb5.mono HB.out.size)
              clear hb5
              go_wp2_with fail
              refine (e_c g m true x1 y1 a1 b1 d1 _ G.out).mono ?_; rintro e w6 ⟨rfl, hb6⟩
              have G := Lib.hid (G.out.keep hb6)
              have C := Lib.hid (C.out.keep hb6)
              have HB : Hid (Below w.heap.size w w6) := Below.trans HB.out (hb6.mono HB.out.size)
              clear hb6
              go_wp2_with fail
              refine (ellmay_v x1 y1 a1 b1 d1 true MY.out _).mono ?_; rintro e w7 ⟨rfl, hb7⟩
              have G := Lib.hid (G.out.keep hb7)
              have C := Lib.hid (C.out.keep hb7)
              have HB : Hid (Below w.heap.size w w7) := Below.trans HB.out (hb7.mono HB.out.size)
              clear hb7
              go_wp2_with fail
              refine (valid_c g m true x1 y1 a1 b1 d1 _ G.out).mono ?_; rintro e w8 ⟨rfl, hb8⟩
              have G := Lib.hid (G.out.keep hb8)
              have C := Lib.hid (C.out.keep hb8)
              have HB : Hid (Below w.heap.size w w8) := Below.trans HB.out (hb8.mono HB.out.size)
              clear hb8
              go_wp2_with fail
              refine (e_c g m true x1 y1 a1 b1 d1 _ G.out).mono ?_; rintro e w9 ⟨rfl, hb9⟩
              have G := Lib.hid (G.out.keep hb9)
              have C := Lib.hid (C.out.keep hb9)
              have HB : Hid (Below w.heap.size w w9) := Below.trans HB.out (hb9.mono HB.out.size)
              clear hb9
              go_wp2_with fail
              refine (trace_v x1 y1 a1 b1 d1 _ HT1.out _).mono ?_; rintro e w10 ⟨rfl, hb10⟩
              have G := Lib.hid (G.out.keep hb10)
              have C := Lib.hid (C.out.keep hb10)
              have HB : Hid (Below w.heap.size w w10) := Below.trans HB.out (hb10.mono HB.out.size)
              clear hb10
              go_wp2_with fail
              have hbw := HB.out
              have sw := hbw.size
              go_roundw
              case rel => exact ⟨k + 1, true, x1, y1, a1, b1, d1, by omega, by go_num, I1, G.out, HB.out⟩
              case measure => simp [intOf]; omega
          · go_wp2_with fail
            refine Calls.mono (move_c g m false x y a b d cp cq cr _ G.out) ?_; rintro e w4 ⟨v1, ⟨x1, y1, a1, b1, d1⟩, kk, hs, rfl, ho, hb⟩
            have FF := fi_move m2 HI.out hs
            have F1 := FF
            have I1 := Lib.hid F1
            have C := Lib.hid (ho.blk C.out ng)
            have HB : Hid (Below w.heap.size w w4) := OnlyAt.below ho HB.out (Nat.le_refl _) lw
            have G := Lib.hid hb
            obtain ⟨t1, ht1⟩ : ∃ t, El.tr ⟨x1, y1, a1, b1, d1⟩ = t := ⟨_, rfl⟩
            have top : ¬ m < t1 := by have := F1.tr; omega
            have HT1 := Lib.hid ht1
            have MY := Lib.hid F1.may
            have Z := F1.zero
            clear hs FF ho hb ht1 y0 c0 f0
            cases v1 with
            | false =>
              have hz := Z rfl
              injection hz with z1 z2 z3 z4 z5
              subst z1; subst z2; subst z3; subst z4; subst z5
              clear Z
              go_wp2_with fail
              refine (valid_c g m false 0 0 0 0 0 _ G.out).mono ?_; rintro e w5 ⟨rfl, hb5⟩
              have G := Lib.hid (G.out.keep hb5)
              have C := Lib.hid (C.out.keep hb5)
              have HB : Hid (Below w.heap.size w w5) := Below.trans HB.out (hb5.mono HB.out.size)
              clear hb5
              go_wp2_with fail
              refine (e_c g m false 0 0 0 0 0 _ G.out).mono ?_; rintro e w6 ⟨rfl, hb6⟩
              have G := Lib.hid (G.out.keep hb6)
              have C := Lib.hid (C.out.keep hb6)
              have HB : Hid (Below w.heap.size w w6) := Below.trans HB.out (hb6.mono HB.out.size)
              clear hb6
              go_wp2_with fail
              refine (ellmay_v 0 0 0 0 0 false MY.out _).mono ?_; rintro e w7 ⟨rfl, hb7⟩
              have G := Lib.hid (G.out.keep hb7)
              have C := Lib.hid (C.out.keep hb7)
              have HB : Hid (Below w.heap.size w w7) := Below.trans HB.out (hb7.mono HB.out.size)
              clear hb7
              go_wp2_with fail
              refine (valid_c g m false 0 0 0 0 0 _ G.out).mono ?_; rintro e w8 ⟨rfl, hb8⟩
              have G := Lib.hid (G.out.keep hb8)
              have C := Lib.hid (C.out.keep hb8)
              have HB : Hid (Below w.heap.size w w8) := Below.trans HB.out (hb8.mono HB.out.size)
              clear hb8
              go_wp2_with fail
              refine (e_c g m false 0 0 0 0 0 _ G.out).mono ?_; rintro e w9 ⟨rfl, hb9⟩
              have G := Lib.hid (G.out.keep hb9)
              have C := Lib.hid (C.out.keep hb9)
              have HB : Hid (Below w.heap.size w w9) := Below.trans HB.out (hb9.mono HB.out.size)
              clear hb9
              go_wp2_with fail
              refine (e_c g m false 0 0 0 0 0 _ G.out).mono ?_; rintro e w10 ⟨rfl, hb10⟩
              have G := Lib.hid (G.out.keep hb10)
              have C := Lib.hid (C.out.keep hb10)
              have HB : Hid (Below w.heap.size w w10) := Below.trans HB.out (hb10.mono HB.out.size)
              clear hb10
              go_wp2_with fail
              refine (trace_v 0 0 0 0 0 _ HT1.out _).mono ?_; rintro e w11 ⟨rfl, hb11⟩
              have G := Lib.hid (G.out.keep hb11)
              have C := Lib.hid (C.out.keep hb11)
              have HB : Hid (Below w.heap.size w w11) := Below.trans HB.out (hb11.mono HB.out.size)
              clear hb11
              go_wp2_with fail
              have hbw := HB.out
              have sw := hbw.size
              go_roundw
              case rel => exact ⟨k + 1, false, 0, 0, 0, 0, 0, by omega, by go_num, I1, G.out, HB.out⟩
              case measure => simp [intOf]; omega
            | true =>
              clear Z
              go_wp2_with fail
              refine (valid_c g m true x1 y1 a1 b1 d1 _ G.out).mono ?_; rintro e w5 ⟨rfl, hb5⟩
              have G := Lib.hid (G.out.keep hb5)
              have C := Lib.hid (C.out.keep hb5)
              have HB : Hid (Below w.heap.size w w5) := Below.trans HB.out (hb5.mono HB.out.size)
              clear hb5
              go_wp2_with fail
              refine (e_c g m true x1 y1 a1 b1 d1 _ G.out).mono ?_; rintro e w6 ⟨rfl, hb6⟩
              have G := Lib.hid (G.out.keep hb6)
              have C := Lib.hid (C.out.keep hb6)
              have HB : Hid (Below w.heap.size w w6) := Below.trans HB.out (hb6.mono HB.out.size)
              clear hb6
              go_wp2_with fail
              refine (ellmay_v x1 y1 a1 b1 d1 true MY.out _).mono ?_; rintro e w7 ⟨rfl, hb7⟩
              have G := Lib.hid (G.out.keep hb7)
              have C := Lib.hid (C.out.keep hb7)
              have HB : Hid (Below w.heap.size w w7) := Below.trans HB.out (hb7.mono HB.out.size)
              clear hb7
              go_wp2_with fail
              refine (valid_c g m true x1 y1 a1 b1 d1 _ G.out).mono ?_; rintro e w8 ⟨rfl, hb8⟩
              have G := Lib.hid (G.out.keep hb8)
              have C := Lib.hid (C.out.keep hb8)
              have HB : Hid (Below w.heap.size w w8) := Below.trans HB.out (hb8.mono HB.out.size)
              clear hb8
              go_wp2_with fail
              refine (e_c g m true x1 y1 a1 b1 d1 _ G.out).mono ?_; rintro e w9 ⟨rfl, hb9⟩
              have G := Lib.hid (G.out.keep hb9)
              have C := Lib.hid (C.out.keep hb9)
              have HB : Hid (Below w.heap.size w w9) := Below.trans HB.out (hb9.mono HB.out.size)
              clear hb9
              go_wp2_with fail
              refine (trace_v x1 y1 a1 b1 d1 _ HT1.out _).mono ?_; rintro e w10 ⟨rfl, hb10⟩
              have G := Lib.hid (G.out.keep hb10)
              have C := Lib.hid (C.out.keep hb10)
              have HB : Hid (Below w.heap.size w w10) := Below.trans HB.out (hb10.mono HB.out.size)
              clear hb10
              go_wp2_with fail
              have hbw := HB.out
              have sw := hbw.size
              go_roundw
              case rel => exact ⟨k + 1, true, x1, y1, a1, b1, d1, by omega, by go_num, I1, G.out, HB.out⟩
              case measure => simp [intOf]; omega
          · go_wp2_with fail
            refine Calls.mono (range_c g m false x y a b d cx cy ca cb cd cl cg _ G.out) ?_; rintro e w4 ⟨v1, ⟨x1, y1, a1, b1, d1⟩, kk, hs, rfl, ho, hb⟩
            have FF := fi_range m2 HI.out hs
            obtain ⟨F1, F2⟩ := FF
            have I1 := Lib.hid F1
            have C := Lib.hid (ho.blk C.out ng)
            have HB : Hid (Below w.heap.size w w4) := OnlyAt.below ho HB.out (Nat.le_refl _) lw
            have G := Lib.hid hb
            obtain ⟨t1, ht1⟩ : ∃ t, El.tr ⟨x1, y1, a1, b1, d1⟩ = t := ⟨_, rfl⟩
            have top : ¬ m < t1 := by have := F1.tr; omega
            rw [ht1, HTR.out] at F2
            have HT1 := Lib.hid ht1
            have MY := Lib.hid F1.may
            have Z := F1.zero
            clear hs ho hb ht1 y0 c0 f0
            cases v1 with
            | false =>
              have hz := Z rfl
              injection hz with z1 z2 z3 z4 z5
              subst z1; subst z2; subst z3; subst z4; subst z5
              clear Z F2
              go_wp2_with fail
              refine (valid_c g m false 0 0 0 0 0 _ G.out).mono ?_; rintro e w5 ⟨rfl, hb5⟩
              have G := Lib.hid (G.out.keep hb5)
              have C := Lib.hid (C.out.keep hb5)
              have HB : Hid (Below w.heap.size w w5) := Below.trans HB.out (hb5.mono HB.out.size)
              clear hb5
              go_wp2_with fail
              refine (e_c g m false 0 0 0 0 0 _ G.out).mono ?_; rintro e w6 ⟨rfl, hb6⟩
              have G := Lib.hid (G.out.keep hb6)
              have C := Lib.hid (C.out.keep hb6)
              have HB : Hid (Below w.heap.size w w6) := Below.trans HB.out (hb6.mono HB.out.size)
              clear hb6
              go_wp2_with fail
              refine (ellmay_v 0 0 0 0 0 false MY.out _).mono ?_; rintro e w7 ⟨rfl, hb7⟩
              have G := Lib.hid (G.out.keep hb7)
              have C := Lib.hid (C.out.keep hb7)
              have HB : Hid (Below w.heap.size w w7) := Below.trans HB.out (hb7.mono HB.out.size)
              clear hb7
              go_wp2_with fail
              refine (valid_c g m false 0 0 0 0 0 _ G.out).mono ?_; rintro e w8 ⟨rfl, hb8⟩
              have G := Lib.hid (G.out.keep hb8)
              have C := Lib.hid (C.out.keep hb8)
              have HB : Hid (Below w.heap.size w w8) := Below.trans HB.out (hb8.mono HB.out.size)
              clear hb8
              go_wp2_with fail
              refine (e_c g m false 0 0 0 0 0 _ G.out).mono ?_; rintro e w9 ⟨rfl, hb9⟩
              have G := Lib.hid (G.out.keep hb9)
              have C := Lib.hid (C.out.keep hb9)
              have HB : Hid (Below w.heap.size w w9) := Below.trans HB.out (hb9.mono HB.out.size)
              clear hb9
              go_wp2_with fail
              refine (e_c g m false 0 0 0 0 0 _ G.out).mono ?_; rintro e w10 ⟨rfl, hb10⟩
              have G := Lib.hid (G.out.keep hb10)
              have C := Lib.hid (C.out.keep hb10)
              have HB : Hid (Below w.heap.size w w10) := Below.trans HB.out (hb10.mono HB.out.size)
              clear hb10
              go_wp2_with fail
              refine (trace_v 0 0 0 0 0 _ HT1.out _).mono ?_; rintro e w11 ⟨rfl, hb11⟩
              have G := Lib.hid (G.out.keep hb11)
              have C := Lib.hid (C.out.keep hb11)
              have HB : Hid (Below w.heap.size w w11) := Below.trans HB.out (hb11.mono HB.out.size)
              clear hb11
              go_wp2_with fail
              have hbw := HB.out
              have sw := hbw.size
              go_roundw
              case rel => exact ⟨k + 1, false, 0, 0, 0, 0, 0, by omega, by go_num, I1, G.out, HB.out⟩
              case measure => simp [intOf]; omega
            | true =>
              clear Z F2
              go_wp2_with fail
              refine (valid_c g m true x1 y1 a1 b1 d1 _ G.out).mono ?_; rintro e w5 ⟨rfl, hb5⟩
              have G := Lib.hid (G.out.keep hb5)
              have C := Lib.hid (C.out.keep hb5)
              have HB : Hid (Below w.heap.size w w5) := Below.trans HB.out (hb5.mono HB.out.size)
              clear hb5
              go_wp2_with fail
              refine (e_c g m true x1 y1 a1 b1 d1 _ G.out).mono ?_; rintro e w6 ⟨rfl, hb6⟩
              have G := Lib.hid (G.out.keep hb6)
              have C := Lib.hid (C.out.keep hb6)
              have HB : Hid (Below w.heap.size w w6) := Below.trans HB.out (hb6.mono HB.out.size)
              clear hb6
              go_wp2_with fail
              refine (ellmay_v x1 y1 a1 b1 d1 true MY.out _).mono ?_; rintro e w7 ⟨rfl, hb7⟩
              have G := Lib.hid (G.out.keep hb7)
              have C := Lib.hid (C.out.keep hb7)
              have HB : Hid (Below w.heap.size w w7) := Below.trans HB.out (hb7.mono HB.out.size)
              clear hb7
              go_wp2_with fail
              refine (valid_c g m true x1 y1 a1 b1 d1 _ G.out).mono ?_; rintro e w8 ⟨rfl, hb8⟩
              have G := Lib.hid (G.out.keep hb8)
              have C := Lib.hid (C.out.keep hb8)
              have HB : Hid (Below w.heap.size w w8) := Below.trans HB.out (hb8.mono HB.out.size)
              clear hb8
              go_wp2_with fail
              refine (e_c g m true x1 y1 a1 b1 d1 _ G.out).mono ?_; rintro e w9 ⟨rfl, hb9⟩
              have G := Lib.hid (G.out.keep hb9)
              have C := Lib.hid (C.out.keep hb9)
              have HB : Hid (Below w.heap.size w w9) := Below.trans HB.out (hb9.mono HB.out.size)
              clear hb9
              go_wp2_with fail
              refine (trace_v x1 y1 a1 b1 d1 _ HT1.out _).mono ?_; rintro e w10 ⟨rfl, hb10⟩
              have G := Lib.hid (G.out.keep hb10)
              have C := Lib.hid (C.out.keep hb10)
              have HB : Hid (Below w.heap.size w w10) := Below.trans HB.out (hb10.mono HB.out.size)
              clear hb10
              go_wp2_with fail
              have hbw := HB.out
              have sw := hbw.size
              go_roundw
              case rel => exact ⟨k + 1, true, x1, y1, a1, b1, d1, by omega, by go_num, I1, G.out, HB.out⟩
              case measure => simp [intOf]; omega
          · go_wp2_with fail
            refine Calls.mono (meet_c g m false x y a b d cx cy ca cb cd _ G.out) ?_; rintro e w4 ⟨v1, ⟨x1, y1, a1, b1, d1⟩, kk, hs, rfl, ho, hb⟩
            have FF := fi_meet m2 HI.out hs
            obtain ⟨F1, F2⟩ := FF
            have I1 := Lib.hid F1
            have C := Lib.hid (ho.blk C.out ng)
            have HB : Hid (Below w.heap.size w w4) := OnlyAt.below ho HB.out (Nat.le_refl _) lw
            have G := Lib.hid hb
            obtain ⟨t1, ht1⟩ : ∃ t, El.tr ⟨x1, y1, a1, b1, d1⟩ = t := ⟨_, rfl⟩
            have top : ¬ m < t1 := by have := F1.tr; omega
            rw [ht1, HTR.out] at F2
            have HT1 := Lib.hid ht1
            have MY := Lib.hid F1.may
            have Z := F1.zero
            clear hs ho hb ht1 y0 c0 f0
            cases v1 with
            | false =>
              have hz := Z rfl
              injection hz with z1 z2 z3 z4 z5
              subst z1; subst z2; subst z3; subst z4; subst z5
              clear Z F2
              go_wp2_with fail
              refine (valid_c g m false 0 0 0 0 0 _ G.out).mono ?_; rintro e w5 ⟨rfl, hb5⟩
              have G := Lib.hid (G.out.keep hb5)
              have C := Lib.hid (C.out.keep hb5)
              have HB : Hid (Below w.heap.size w w5) := Below.trans HB.out (hb5.mono HB.out.size)
              clear hb5
              go_wp2_with fail
              refine (e_c g m false 0 0 0 0 0 _ G.out).mono ?_; rintro e w6 ⟨rfl, hb6⟩
              have G := Lib.hid (G.out.keep hb6)
              have C := Lib.hid (C.out.keep hb6)
              have HB : Hid (Below w.heap.size w w6) := Below.trans HB.out (hb6.mono HB.out.size)
              clear hb6
              go_wp2_with fail
              refine (ellmay_v 0 0 0 0 0 false MY.out _).mono ?_; rintro e w7 ⟨rfl, hb7⟩
              have G := Lib.hid (G.out.keep hb7)
              have C := Lib.hid (C.out.keep hb7)
              have HB : Hid (Below w.heap.size w w7) := Below.trans HB.out (hb7.mono HB.out.size)
              clear hb7
              go_wp2_with fail
              refine (valid_c g m false 0 0 0 0 0 _ G.out).mono ?_; rintro e w8 ⟨rfl, hb8⟩
              have G := Lib.hid (G.out.keep hb8)
              have C := Lib.hid (C.out.keep hb8)
              have HB : Hid (Below w.heap.size w w8) := Below.trans HB.out (hb8.mono HB.out.size)
              clear hb8
              go_wp2_with fail
              refine (e_c g m false 0 0 0 0 0 _ G.out).mono ?_; rintro e w9 ⟨rfl, hb9⟩
              have G := Lib.hid (G.out.keep hb9)
              have C := Lib.hid (C.out.keep hb9)
              have HB : Hid (Below w.heap.size w w9) := Below.trans HB.out (hb9.mono HB.out.size)
              clear hb9
              go_wp2_with fail
              refine (e_c g m false 0 0 0 0 0 _ G.out).mono ?_; rintro e w10 ⟨rfl, hb10⟩
              have G := Lib.hid (G.out.keep hb10)
              have C := Lib.hid (C.out.keep hb10)
              have HB : Hid (Below w.heap.size w w10) := Below.trans HB.out (hb10.mono HB.out.size)
              clear hb10
              go_wp2_with fail
              refine (trace_v 0 0 0 0 0 _ HT1.out _).mono ?_; rintro e w11 ⟨rfl, hb11⟩
              have G := Lib.hid (G.out.keep hb11)
              have C := Lib.hid (C.out.keep hb11)
              have HB : Hid (Below w.heap.size w w11) := Below.trans HB.out (hb11.mono HB.out.size)
              clear hb11
              go_wp2_with fail
              have hbw := HB.out
              have sw := hbw.size
              go_roundw
              case rel => exact ⟨k + 1, false, 0, 0, 0, 0, 0, by omega, by go_num, I1, G.out, HB.out⟩
              case measure => simp [intOf]; omega
            | true =>
              clear Z F2
              go_wp2_with fail
              refine (valid_c g m true x1 y1 a1 b1 d1 _ G.out).mono ?_; rintro e w5 ⟨rfl, hb5⟩
              have G := Lib.hid (G.out.keep hb5)
              have C := Lib.hid (C.out.keep hb5)
              have HB : Hid (Below w.heap.size w w5) := Below.trans HB.out (hb5.mono HB.out.size)
              clear hb5
              go_wp2_with fail
              refine (e_c g m true x1 y1 a1 b1 d1 _ G.out).mono ?_; rintro e w6 ⟨rfl, hb6⟩
              have G := Lib.hid (G.out.keep hb6)
              have C := Lib.hid (C.out.keep hb6)
              have HB : Hid (Below w.heap.size w w6) := Below.trans HB.out (hb6.mono HB.out.size)
              clear hb6
              go_wp2_with fail
              refine (ellmay_v x1 y1 a1 b1 d1 true MY.out _).mono ?_; rintro e w7 ⟨rfl, hb7⟩
              have G := Lib.hid (G.out.keep hb7)
              have C := Lib.hid (C.out.keep hb7)
              have HB : Hid (Below w.heap.size w w7) := Below.trans HB.out (hb7.mono HB.out.size)
              clear hb7
              go_wp2_with fail
              refine (valid_c g m true x1 y1 a1 b1 d1 _ G.out).mono ?_; rintro e w8 ⟨rfl, hb8⟩
              have G := Lib.hid (G.out.keep hb8)
              have C := Lib.hid (C.out.keep hb8)
              have HB : Hid (Below w.heap.size w w8) := Below.trans HB.out (hb8.mono HB.out.size)
              clear hb8
              go_wp2_with fail
              refine (e_c g m true x1 y1 a1 b1 d1 _ G.out).mono ?_; rintro e w9 ⟨rfl, hb9⟩
              have G := Lib.hid (G.out.keep hb9)
              have C := Lib.hid (C.out.keep hb9)
              have HB : Hid (Below w.heap.size w w9) := Below.trans HB.out (hb9.mono HB.out.size)
              clear hb9
              go_wp2_with fail
              refine (trace_v x1 y1 a1 b1 d1 _ HT1.out _).mono ?_; rintro e w10 ⟨rfl, hb10⟩
              have G := Lib.hid (G.out.keep hb10)
              have C := Lib.hid (C.out.keep hb10)
              have HB : Hid (Below w.heap.size w w10) := Below.trans HB.out (hb10.mono HB.out.size)
              clear hb10
              go_wp2_with fail
              have hbw := HB.out
              have sw := hbw.size
              go_roundw
              case rel => exact ⟨k + 1, true, x1, y1, a1, b1, d1, by omega, by go_num, I1, G.out, HB.out⟩
              case measure => simp [intOf]; omega
          · have b0 : (cn == 0) = false := by simp [d0]
            have b1 : (cn == 1) = false := by simp [d1]
            have b2 : (cn == 2) = false := by simp [d2]
            have b3 : (cn == 3) = false := by simp [d3]
            have I1 := HI
            have top : ¬ m < t := by have h1 := HI.out.tr; rw [HTR.out] at h1; omega
            have HT1 := HTR
            have MY := Lib.hid HI.out.may
            have hz := HI.out.zero rfl
            injection hz with z1 z2 z3 z4 z5
            subst z1; subst z2; subst z3; subst z4; subst z5
            go_wp2_with fail
            clear y0 c0 f0
            refine (valid_c g m false 0 0 0 0 0 _ G.out).mono ?_; rintro e w4 ⟨rfl, hb4⟩
            have G := Lib.hid (G.out.keep hb4)
            have C := Lib.hid (C.out.keep hb4)
            have HB : Hid (Below w.heap.size w w4) := Below.trans HB.out (hb4.mono HB.out.size)
            clear hb4
            go_wp2_with fail
            refine (e_c g m false 0 0 0 0 0 _ G.out).mono ?_; rintro e w5 ⟨rfl, hb5⟩
            have G := Lib.hid (G.out.keep hb5)
            have C := Lib.hid (C.out.keep hb5)
            have HB : Hid (Below w.heap.size w w5) := Below.trans HB.out (hb5.mono HB.out.size)
            clear hb5
            go_wp2_with fail
            refine (ellmay_v 0 0 0 0 0 false MY.out _).mono ?_; rintro e w6 ⟨rfl, hb6⟩
            have G := Lib.hid (G.out.keep hb6)
            have C := Lib.hid (C.out.keep hb6)
            have HB : Hid (Below w.heap.size w w6) := Below.trans HB.out (hb6.mono HB.out.size)
            clear hb6
            go_wp2_with fail
            refine (valid_c g m false 0 0 0 0 0 _ G.out).mono ?_; rintro e w7 ⟨rfl, hb7⟩
            have G := Lib.hid (G.out.keep hb7)
            have C := Lib.hid (C.out.keep hb7)
            have HB : Hid (Below w.heap.size w w7) := Below.trans HB.out (hb7.mono HB.out.size)
            clear hb7
            go_wp2_with fail
            refine (e_c g m false 0 0 0 0 0 _ G.out).mono ?_; rintro e w8 ⟨rfl, hb8⟩
            have G := Lib.hid (G.out.keep hb8)
            have C := Lib.hid (C.out.keep hb8)
            have HB : Hid (Below w.heap.size w w8) := Below.trans HB.out (hb8.mono HB.out.size)
            clear hb8
            go_wp2_with fail
            refine (e_c g m false 0 0 0 0 0 _ G.out).mono ?_; rintro e w9 ⟨rfl, hb9⟩
            have G := Lib.hid (G.out.keep hb9)
            have C := Lib.hid (C.out.keep hb9)
            have HB : Hid (Below w.heap.size w w9) := Below.trans HB.out (hb9.mono HB.out.size)
            clear hb9
            go_wp2_with fail
            refine (trace_v 0 0 0 0 0 _ HT1.out _).mono ?_; rintro e w10 ⟨rfl, hb10⟩
            have G := Lib.hid (G.out.keep hb10)
            have C := Lib.hid (C.out.keep hb10)
            have HB : Hid (Below w.heap.size w w10) := Below.trans HB.out (hb10.mono HB.out.size)
            clear hb10
            go_wp2_with fail
            have hbw := HB.out
            have sw := hbw.size
            go_roundw
            case rel => exact ⟨k + 1, false, 0, 0, 0, 0, 0, by omega, by go_num, I1, G.out, HB.out⟩
            case measure => simp [intOf]; omega
        | true =>
          refine (valid_c g m true x y a b d _ G.out).mono ?_; rintro e w11 ⟨rfl, hb11⟩
          have G := Lib.hid (G.out.keep hb11)
          have C := Lib.hid (C.out.keep hb11)
          have HB : Hid (Below w.heap.size w w11) := Below.trans HB.out (hb11.mono HB.out.size)
          clear hb11
          go_wp2_with fail
          refine (e_c g m true x y a b d _ G.out).mono ?_; rintro e w12 ⟨rfl, hb12⟩
          have G := Lib.hid (G.out.keep hb12)
          have C := Lib.hid (C.out.keep hb12)
          have HB : Hid (Below w.heap.size w w12) := Below.trans HB.out (hb12.mono HB.out.size)
          clear hb12
          go_wp2_with fail
          refine (trace_v x y a b d _ HTR.out _).mono ?_; rintro e w13 ⟨rfl, hb13⟩
          have G := Lib.hid (G.out.keep hb13)
          have C := Lib.hid (C.out.keep hb13)
          have HB : Hid (Below w.heap.size w w13) := Below.trans HB.out (hb13.mono HB.out.size)
          clear hb13
          obtain ⟨y0, c0, f0, -⟩ := bk_o C.out
          have hcn : cn = 0 ∨ cn = 1 ∨ cn = 2 ∨ cn = 3 ∨ (¬ cn = 0 ∧ ¬ cn = 1 ∧ ¬ cn = 2 ∧ ¬ cn = 3) := by omega
          rcases hcn with rfl | rfl | rfl | rfl | ⟨d0, d1, d2, d3⟩
          · go_wp2_with fail
            refine Calls.mono (set_c g m true x y a b d cx cy ca cb cd _ G.out) ?_; rintro e w14 ⟨v1, ⟨x1, y1, a1, b1, d1⟩, kk, hs, rfl, ho, hb⟩
            have FF := fi_set HI.out hs
            have F1 := FF
            have I1 := Lib.hid F1
            have C := Lib.hid (ho.blk C.out ng)
            have HB : Hid (Below w.heap.size w w14) := OnlyAt.below ho HB.out (Nat.le_refl _) lw
            have G := Lib.hid hb
            obtain ⟨t1, ht1⟩ : ∃ t, El.tr ⟨x1, y1, a1, b1, d1⟩ = t := ⟨_, rfl⟩
            have top : ¬ m < t1 := by have := F1.tr; omega
            have HT1 := Lib.hid ht1
            have MY := Lib.hid F1.may
            have Z := F1.zero
            clear hs FF ho hb ht1 y0 c0 f0
            cases v1 with
            | false =>
              have hz := Z rfl
              injection hz with z1 z2 z3 z4 z5
              subst z1; subst z2; subst z3; subst z4; subst z5
              clear Z
              go_wp2_with fail
              refine (valid_c g m false 0 0 0 0 0 _ G.out).mono ?_; rintro e w15 ⟨rfl, hb15⟩
              have G := Lib.hid (G.out.keep hb15)
              have C := Lib.hid (C.out.keep hb15)
              have HB : Hid (Below w.heap.size w w15) := Below.trans HB.out (hb15.mono HB.out.size)
              clear hb15
              go_wp2_with fail
              refine (e_c g m false 0 0 0 0 0 _ G.out).mono ?_; rintro e w16 ⟨rfl, hb16⟩
              have G := Lib.hid (G.out.keep hb16)
              have C := Lib.hid (C.out.keep hb16)
              have HB : Hid (Below w.heap.size w w16) := Below.trans HB.out (hb16.mono HB.out.size)
              clear hb16
              go_wp2_with fail
              refine (ellmay_v 0 0 0 0 0 false MY.out _).mono ?_; rintro e w17 ⟨rfl, hb17⟩
              have G := Lib.hid (G.out.keep hb17)
              have C := Lib.hid (C.out.keep hb17)
              have HB : Hid (Below w.heap.size w w17) := Below.trans HB.out (hb17.mono HB.out.size)
              clear hb17
              go_wp2_with fail
              refine (valid_c g m false 0 0 0 0 0 _ G.out).mono ?_; rintro e w18 ⟨rfl, hb18⟩
              have G := Lib.hid (G.out.keep hb18)
              have C := Lib.hid (C.out.keep hb18)
              have HB : Hid (Below w.heap.size w w18) := Below.trans HB.out (hb18.mono HB.out.size)
              clear hb18
              go_wp2_with fail
              refine (e_c g m false 0 0 0 0 0 _ G.out).mono ?_; rintro e w19 ⟨rfl, hb19⟩
              have G := Lib.hid (G.out.keep hb19)
              have C := Lib.hid (C.out.keep hb19)
              have HB : Hid (Below w.heap.size w w19) := Below.trans HB.out (hb19.mono HB.out.size)
              clear hb19
              go_wp2_with fail
              refine (e_c g m false 0 0 0 0 0 _ G.out).mono ?_; rintro e w20 ⟨rfl, hb20⟩
              have G := Lib.hid (G.out.keep hb20)
              have C := Lib.hid (C.out.keep hb20)
              have HB : Hid (Below w.heap.size w w20) := Below.trans HB.out (hb20.mono HB.out.size)
              clear hb20
              go_wp2_with fail
              refine (trace_v 0 0 0 0 0 _ HT1.out _).mono ?_; rintro e w21 ⟨rfl, hb21⟩
              have G := Lib.hid (G.out.keep hb21)
              have C := Lib.hid (C.out.keep hb21)
              have HB : Hid (Below w.heap.size w w21) := Below.trans HB.out (hb21.mono HB.out.size)
              clear hb21
              obtain ⟨y0, c0, f0, -⟩ := bk_o C.out
              go_wp2_with fail
              refine (valid_c g m false 0 0 0 0 0 _ G.out).mono ?_; rintro e w22 ⟨rfl, hb22⟩
              have G := Lib.hid (G.out.keep hb22)
              have C := Lib.hid (C.out.keep hb22)
              have HB : Hid (Below w.heap.size w w22) := Below.trans HB.out (hb22.mono HB.out.size)
              clear hb22
              clear y0 c0 f0
              obtain ⟨y0, c0, f0, -⟩ := bk_o C.out
              go_wp2_with fail
              have hbw := HB.out
              have sw := hbw.size
              go_roundw
              case rel => exact ⟨k + 1, false, 0, 0, 0, 0, 0, by omega, by go_num, I1, G.out, HB.out⟩
              case measure => simp [intOf]; omega
            | true =>
              clear Z
              go_wp2_with fail
              refine (valid_c g m true x1 y1 a1 b1 d1 _ G.out).mono ?_; rintro e w15 ⟨rfl, hb15⟩
              have G := Lib.hid (G.out.keep hb15)
              have C := Lib.hid (C.out.keep hb15)
              have HB : Hid (Below w.heap.size w w15) := Below.trans HB.out (hb15.mono HB.out.size)
              clear hb15
              go_wp2_with fail
              refine (e_c g m true x1 y1 a1 b1 d1 _ G.out).mono ?_; rintro e w16 ⟨rfl, hb16⟩
              have G := Lib.hid (G.out.keep hb16)
              have C := Lib.hid (C.out.keep hb16)
              have HB : Hid (Below w.heap.size w w16) := Below.trans HB.out (hb16.mono HB.out.size)
              clear hb16
              go_wp2_with fail
              refine (ellmay_v x1 y1 a1 b1 d1 true MY.out _).mono ?_; rintro e w17 ⟨rfl, hb17⟩
              have G := Lib.hid (G.out.keep hb17)
              have C := Lib.hid (C.out.keep hb17)
              have HB : Hid (Below w.heap.size w w17) := Below.trans HB.out (hb17.mono HB.out.size)
              clear hb17
              go_wp2_with fail
              refine (valid_c g m true x1 y1 a1 b1 d1 _ G.out).mono ?_; rintro e w18 ⟨rfl, hb18⟩
              have G := Lib.hid (G.out.keep hb18)
              have C := Lib.hid (C.out.keep hb18)
              have HB : Hid (Below w.heap.size w w18) := Below.trans HB.out (hb18.mono HB.out.size)
              clear hb18
              go_wp2_with fail
              refine (e_c g m true x1 y1 a1 b1 d1 _ G.out).mono ?_; rintro e w19 ⟨rfl, hb19⟩
              have G := Lib.hid (G.out.keep hb19)
              have C := Lib.hid (C.out.keep hb19)
              have HB : Hid (Below w.heap.size w w19) := Below.trans HB.out (hb19.mono HB.out.size)
              clear hb19
              go_wp2_with fail
              refine (trace_v x1 y1 a1 b1 d1 _ HT1.out _).mono ?_; rintro e w20 ⟨rfl, hb20⟩
              have G := Lib.hid (G.out.keep hb20)
              have C := Lib.hid (C.out.keep hb20)
              have HB : Hid (Below w.heap.size w w20) := Below.trans HB.out (hb20.mono HB.out.size)
              clear hb20
              obtain ⟨y0, c0, f0, -⟩ := bk_o C.out
              go_wp2_with fail
              refine (valid_c g m true x1 y1 a1 b1 d1 _ G.out).mono ?_; rintro e w21 ⟨rfl, hb21⟩
              have G := Lib.hid (G.out.keep hb21)
              have C := Lib.hid (C.out.keep hb21)
              have HB : Hid (Below w.heap.size w w21) := Below.trans HB.out (hb21.mono HB.out.size)
              clear hb21
              clear y0 c0 f0
              obtain ⟨y0, c0, f0, -⟩ := bk_o C.out
              go_wp2_with fail
              have hbw := HB.out
              have sw := hbw.size
              go_roundw
              case rel => exact ⟨k + 1, true, x1, y1, a1, b1, d1, by omega, by go_num, I1, G.out, HB.out⟩
              case measure => simp [intOf]; omega
          · go_wp2_with fail
            refine Calls.mono (move_c g m true x y a b d cp cq cr _ G.out) ?_; rintro e w14 ⟨v1, ⟨x1, y1, a1, b1, d1⟩, kk, hs, rfl, ho, hb⟩
            have FF := fi_move m2 HI.out hs
            have F1 := FF
            have I1 := Lib.hid F1
            have C := Lib.hid (ho.blk C.out ng)
            have HB : Hid (Below w.heap.size w w14) := OnlyAt.below ho HB.out (Nat.le_refl _) lw
            have G := Lib.hid hb
            obtain ⟨t1, ht1⟩ : ∃ t, El.tr ⟨x1, y1, a1, b1, d1⟩ = t := ⟨_, rfl⟩
            have top : ¬ m < t1 := by have := F1.tr; omega
            have HT1 := Lib.hid ht1
            have MY := Lib.hid F1.may
            have Z := F1.zero
            clear hs FF ho hb ht1 y0 c0 f0
            cases v1 with
            | false =>
              have hz := Z rfl
              injection hz with z1 z2 z3 z4 z5
              subst z1; subst z2; subst z3; subst z4; subst z5
              clear Z
              go_wp2_with fail
              refine (valid_c g m false 0 0 0 0 0 _ G.out).mono ?_; rintro e w15 ⟨rfl, hb15⟩
              have G := Lib.hid (G.out.keep hb15)
              have C := Lib.hid (C.out.keep hb15)
              have HB : Hid (Below w.heap.size w w15) := Below.trans HB.out (hb15.mono HB.out.size)
              clear hb15
              go_wp2_with fail
              refine (e_c g m false 0 0 0 0 0 _ G.out).mono ?_; rintro e w16 ⟨rfl, hb16⟩
              have G := Lib.hid (G.out.keep hb16)
              have C := Lib.hid (C.out.keep hb16)
              have HB : Hid (Below w.heap.size w w16) := Below.trans HB.out (hb16.mono HB.out.size)
              clear hb16
              go_wp2_with fail
              refine (ellmay_v 0 0 0 0 0 false MY.out _).mono ?_; rintro e w17 ⟨rfl, hb17⟩
              have G := Lib.hid (G.out.keep hb17)
              have C := Lib.hid (C.out.keep hb17)
              have HB : Hid (Below w.heap.size w w17) := Below.trans HB.out (hb17.mono HB.out.size)
              clear hb17
              go_wp2_with fail
              refine (valid_c g m false 0 0 0 0 0 _ G.out).mono ?_; rintro e w18 ⟨rfl, hb18⟩
              have G := Lib.hid (G.out.keep hb18)
              have C := Lib.hid (C.out.keep hb18)
              have HB : Hid (Below w.heap.size w w18) := Below.trans HB.out (hb18.mono HB.out.size)
              clear hb18
              go_wp2_with fail
              refine (e_c g m false 0 0 0 0 0 _ G.out).mono ?_; rintro e w19 ⟨rfl, hb19⟩
              have G := Lib.hid (G.out.keep hb19)
              have C := Lib.hid (C.out.keep hb19)
              have HB : Hid (Below w.heap.size w w19) := Below.trans HB.out (hb19.mono HB.out.size)
              clear hb19
              go_wp2_with fail
              refine (e_c g m false 0 0 0 0 0 _ G.out).mono ?_; rintro e w20 ⟨rfl, hb20⟩
              have G := Lib.hid (G.out.keep hb20)
              have C := Lib.hid (C.out.keep hb20)
              have HB : Hid (Below w.heap.size w w20) := Below.trans HB.out (hb20.mono HB.out.size)
              clear hb20
              go_wp2_with fail
              refine (trace_v 0 0 0 0 0 _ HT1.out _).mono ?_; rintro e w21 ⟨rfl, hb21⟩
              have G := Lib.hid (G.out.keep hb21)
              have C := Lib.hid (C.out.keep hb21)
              have HB : Hid (Below w.heap.size w w21) := Below.trans HB.out (hb21.mono HB.out.size)
              clear hb21
              obtain ⟨y0, c0, f0, -⟩ := bk_o C.out
              go_wp2_with fail
              refine (valid_c g m false 0 0 0 0 0 _ G.out).mono ?_; rintro e w22 ⟨rfl, hb22⟩
              have G := Lib.hid (G.out.keep hb22)
              have C := Lib.hid (C.out.keep hb22)
              have HB : Hid (Below w.heap.size w w22) := Below.trans HB.out (hb22.mono HB.out.size)
              clear hb22
              clear y0 c0 f0
              obtain ⟨y0, c0, f0, -⟩ := bk_o C.out
              go_wp2_with fail
              have hbw := HB.out
              have sw := hbw.size
              go_roundw
              case rel => exact ⟨k + 1, false, 0, 0, 0, 0, 0, by omega, by go_num, I1, G.out, HB.out⟩
              case measure => simp [intOf]; omega
            | true =>
              clear Z
              go_wp2_with fail
              refine (valid_c g m true x1 y1 a1 b1 d1 _ G.out).mono ?_; rintro e w15 ⟨rfl, hb15⟩
              have G := Lib.hid (G.out.keep hb15)
              have C := Lib.hid (C.out.keep hb15)
              have HB : Hid (Below w.heap.size w w15) := Below.trans HB.out (hb15.mono HB.out.size)
              clear hb15
              go_wp2_with fail
              refine (e_c g m true x1 y1 a1 b1 d1 _ G.out).mono ?_; rintro e w16 ⟨rfl, hb16⟩
              have G := Lib.hid (G.out.keep hb16)
              have C := Lib.hid (C.out.keep hb16)
              have HB : Hid (Below w.heap.size w w16) := Below.trans HB.out (hb16.mono HB.out.size)
              clear hb16
              go_wp2_with fail
              refine (ellmay_v x1 y1 a1 b1 d1 true MY.out _).mono ?_; rintro e w17 ⟨rfl, hb17⟩
              have G := Lib.hid (G.out.keep hb17)
              have C := Lib.hid (C.out.keep hb17)
              have HB : Hid (Below w.heap.size w w17) := Below.trans HB.out (hb17.mono HB.out.size)
              clear hb17
              go_wp2_with fail
              refine (valid_c g m true x1 y1 a1 b1 d1 _ G.out).mono ?_; rintro e w18 ⟨rfl, hb18⟩
              have G := Lib.hid (G.out.keep hb18)
              have C := Lib.hid (C.out.keep hb18)
              have HB : Hid (Below w.heap.size w w18) := Below.trans HB.out (hb18.mono HB.out.size)
              clear hb18
              go_wp2_with fail
              refine (e_c g m true x1 y1 a1 b1 d1 _ G.out).mono ?_; rintro e w19 ⟨rfl, hb19⟩
              have G := Lib.hid (G.out.keep hb19)
              have C := Lib.hid (C.out.keep hb19)
              have HB : Hid (Below w.heap.size w w19) := Below.trans HB.out (hb19.mono HB.out.size)
              clear hb19
              go_wp2_with fail
              refine (trace_v x1 y1 a1 b1 d1 _ HT1.out _).mono ?_; rintro e w20 ⟨rfl, hb20⟩
              have G := Lib.hid (G.out.keep hb20)
              have C := Lib.hid (C.out.keep hb20)
              have HB : Hid (Below w.heap.size w w20) := Below.trans HB.out (hb20.mono HB.out.size)
              clear hb20
              obtain ⟨y0, c0, f0, -⟩ := bk_o C.out
              go_wp2_with fail
              refine (valid_c g m true x1 y1 a1 b1 d1 _ G.out).mono ?_; rintro e w21 ⟨rfl, hb21⟩
              have G := Lib.hid (G.out.keep hb21)
              have C := Lib.hid (C.out.keep hb21)
              have HB : Hid (Below w.heap.size w w21) := Below.trans HB.out (hb21.mono HB.out.size)
              clear hb21
              clear y0 c0 f0
              obtain ⟨y0, c0, f0, -⟩ := bk_o C.out
              go_wp2_with fail
              have hbw := HB.out
              have sw := hbw.size
              go_roundw
              case rel => exact ⟨k + 1, true, x1, y1, a1, b1, d1, by omega, by go_num, I1, G.out, HB.out⟩
              case measure => simp [intOf]; omega
          · go_wp2_with fail
            refine Calls.mono (range_c g m true x y a b d cx cy ca cb cd cl cg _ G.out) ?_; rintro e w14 ⟨v1, ⟨x1, y1, a1, b1, d1⟩, kk, hs, rfl, ho, hb⟩
            have FF := fi_range m2 HI.out hs
            obtain ⟨F1, F2⟩ := FF
            have I1 := Lib.hid F1
            have C := Lib.hid (ho.blk C.out ng)
            have HB : Hid (Below w.heap.size w w14) := OnlyAt.below ho HB.out (Nat.le_refl _) lw
            have G := Lib.hid hb
            obtain ⟨t1, ht1⟩ : ∃ t, El.tr ⟨x1, y1, a1, b1, d1⟩ = t := ⟨_, rfl⟩
            have top : ¬ m < t1 := by have := F1.tr; omega
            rw [ht1, HTR.out] at F2
            have HT1 := Lib.hid ht1
            have MY := Lib.hid F1.may
            have Z := F1.zero
            clear hs ho hb ht1 y0 c0 f0
            cases v1 with
            | false =>
              have hz := Z rfl
              injection hz with z1 z2 z3 z4 z5
              subst z1; subst z2; subst z3; subst z4; subst z5
              clear Z F2
              go_wp2_with fail
              refine (valid_c g m false 0 0 0 0 0 _ G.out).mono ?_; rintro e w15 ⟨rfl, hb15⟩
              have G := Lib.hid (G.out.keep hb15)
              have C := Lib.hid (C.out.keep hb15)
              have HB : Hid (Below w.heap.size w w15) := Below.trans HB.out (hb15.mono HB.out.size)
              clear hb15
              go_wp2_with fail
              refine (e_c g m false 0 0 0 0 0 _ G.out).mono ?_; rintro e w16 ⟨rfl, hb16⟩
              have G := Lib.hid (G.out.keep hb16)
              have C := Lib.hid (C.out.keep hb16)
              have HB : Hid (Below w.heap.size w w16) := Below.trans HB.out (hb16.mono HB.out.size)
              clear hb16
              go_wp2_with fail
              refine (ellmay_v 0 0 0 0 0 false MY.out _).mono ?_; rintro e w17 ⟨rfl, hb17⟩
              have G := Lib.hid (G.out.keep hb17)
              have C := Lib.hid (C.out.keep hb17)
              have HB : Hid (Below w.heap.size w w17) := Below.trans HB.out (hb17.mono HB.out.size)
              clear hb17
              go_wp2_with fail
              refine (valid_c g m false 0 0 0 0 0 _ G.out).mono ?_; rintro e w18 ⟨rfl, hb18⟩
              have G := Lib.hid (G.out.keep hb18)
              have C := Lib.hid (C.out.keep hb18)
              have HB : Hid (Below w.heap.size w w18) := Below.trans HB.out (hb18.mono HB.out.size)
              clear hb18
              go_wp2_with fail
              refine (e_c g m false 0 0 0 0 0 _ G.out).mono ?_; rintro e w19 ⟨rfl, hb19⟩
              have G := Lib.hid (G.out.keep hb19)
              have C := Lib.hid (C.out.keep hb19)
              have HB : Hid (Below w.heap.size w w19) := Below.trans HB.out (hb19.mono HB.out.size)
              clear hb19
              go_wp2_with fail
              refine (e_c g m false 0 0 0 0 0 _ G.out).mono ?_; rintro e w20 ⟨rfl, hb20⟩
              have G := Lib.hid (G.out.keep hb20)
              have C := Lib.hid (C.out.keep hb20)
              have HB : Hid (Below w.heap.size w w20) := Below.trans HB.out (hb20.mono HB.out.size)
              clear hb20
              go_wp2_with fail
              refine (trace_v 0 0 0 0 0 _ HT1.out _).mono ?_; rintro e w21 ⟨rfl, hb21⟩
              have G := Lib.hid (G.out.keep hb21)
              have C := Lib.hid (C.out.keep hb21)
              have HB : Hid (Below w.heap.size w w21) := Below.trans HB.out (hb21.mono HB.out.size)
              clear hb21
              obtain ⟨y0, c0, f0, -⟩ := bk_o C.out
              go_wp2_with fail
              refine (valid_c g m false 0 0 0 0 0 _ G.out).mono ?_; rintro e w22 ⟨rfl, hb22⟩
              have G := Lib.hid (G.out.keep hb22)
              have C := Lib.hid (C.out.keep hb22)
              have HB : Hid (Below w.heap.size w w22) := Below.trans HB.out (hb22.mono HB.out.size)
              clear hb22
              clear y0 c0 f0
              obtain ⟨y0, c0, f0, -⟩ := bk_o C.out
              go_wp2_with fail
              have hbw := HB.out
              have sw := hbw.size
              go_roundw
              case rel => exact ⟨k + 1, false, 0, 0, 0, 0, 0, by omega, by go_num, I1, G.out, HB.out⟩
              case measure => simp [intOf]; omega
            | true =>
              have F3 := F2 rfl rfl
              have le1 : ¬ t < t1 := by omega
              clear Z F2 F3
              go_wp2_with fail
              refine (valid_c g m true x1 y1 a1 b1 d1 _ G.out).mono ?_; rintro e w15 ⟨rfl, hb15⟩
              have G := Lib.hid (G.out.keep hb15)
              have C := Lib.hid (C.out.keep hb15)
              have HB : Hid (Below w.heap.size w w15) := Below.trans HB.out (hb15.mono HB.out.size)
              clear hb15
              go_wp2_with fail
              refine (e_c g m true x1 y1 a1 b1 d1 _ G.out).mono ?_; rintro e w16 ⟨rfl, hb16⟩
              have G := Lib.hid (G.out.keep hb16)
              have C := Lib.hid (C.out.keep hb16)
              have HB : Hid (Below w.heap.size w w16) := Below.trans HB.out (hb16.mono HB.out.size)
              clear hb16
              go_wp2_with fail
              refine (ellmay_v x1 y1 a1 b1 d1 true MY.out _).mono ?_; rintro e w17 ⟨rfl, hb17⟩
              have G := Lib.hid (G.out.keep hb17)
              have C := Lib.hid (C.out.keep hb17)
              have HB : Hid (Below w.heap.size w w17) := Below.trans HB.out (hb17.mono HB.out.size)
              clear hb17
              go_wp2_with fail
              refine (valid_c g m true x1 y1 a1 b1 d1 _ G.out).mono ?_; rintro e w18 ⟨rfl, hb18⟩
              have G := Lib.hid (G.out.keep hb18)
              have C := Lib.hid (C.out.keep hb18)
              have HB : Hid (Below w.heap.size w w18) := Below.trans HB.out (hb18.mono HB.out.size)
              clear hb18
              go_wp2_with fail
              refine (e_c g m true x1 y1 a1 b1 d1 _ G.out).mono ?_; rintro e w19 ⟨rfl, hb19⟩
              have G := Lib.hid (G.out.keep hb19)
              have C := Lib.hid (C.out.keep hb19)
              have HB : Hid (Below w.heap.size w w19) := Below.trans HB.out (hb19.mono HB.out.size)
              clear hb19
              go_wp2_with fail
              refine (trace_v x1 y1 a1 b1 d1 _ HT1.out _).mono ?_; rintro e w20 ⟨rfl, hb20⟩
              have G := Lib.hid (G.out.keep hb20)
              have C := Lib.hid (C.out.keep hb20)
              have HB : Hid (Below w.heap.size w w20) := Below.trans HB.out (hb20.mono HB.out.size)
              clear hb20
              obtain ⟨y0, c0, f0, -⟩ := bk_o C.out
              go_wp2_with fail
              refine (valid_c g m true x1 y1 a1 b1 d1 _ G.out).mono ?_; rintro e w21 ⟨rfl, hb21⟩
              have G := Lib.hid (G.out.keep hb21)
              have C := Lib.hid (C.out.keep hb21)
              have HB : Hid (Below w.heap.size w w21) := Below.trans HB.out (hb21.mono HB.out.size)
              clear hb21
              clear y0 c0 f0
              obtain ⟨y0, c0, f0, -⟩ := bk_o C.out
              go_wp2_with fail
              refine (e_c g m true x1 y1 a1 b1 d1 _ G.out).mono ?_; rintro e w22 ⟨rfl, hb22⟩
              have G := Lib.hid (G.out.keep hb22)
              have C := Lib.hid (C.out.keep hb22)
              have HB : Hid (Below w.heap.size w w22) := Below.trans HB.out (hb22.mono HB.out.size)
              clear hb22
              go_wp2_with fail
              refine (trace_v x1 y1 a1 b1 d1 _ HT1.out _).mono ?_; rintro e w23 ⟨rfl, hb23⟩
              have G := Lib.hid (G.out.keep hb23)
              have C := Lib.hid (C.out.keep hb23)
              have HB : Hid (Below w.heap.size w w23) := Below.trans HB.out (hb23.mono HB.out.size)
              clear hb23
              go_wp2_with fail
              have hbw := HB.out
              have sw := hbw.size
              go_roundw
              case rel => exact ⟨k + 1, true, x1, y1, a1, b1, d1, by omega, by go_num, I1, G.out, HB.out⟩
              case measure => simp [intOf]; omega
          · go_wp2_with fail
            refine Calls.mono (meet_c g m true x y a b d cx cy ca cb cd _ G.out) ?_; rintro e w14 ⟨v1, ⟨x1, y1, a1, b1, d1⟩, kk, hs, rfl, ho, hb⟩
            have FF := fi_meet m2 HI.out hs
            obtain ⟨F1, F2⟩ := FF
            have I1 := Lib.hid F1
            have C := Lib.hid (ho.blk C.out ng)
            have HB : Hid (Below w.heap.size w w14) := OnlyAt.below ho HB.out (Nat.le_refl _) lw
            have G := Lib.hid hb
            obtain ⟨t1, ht1⟩ : ∃ t, El.tr ⟨x1, y1, a1, b1, d1⟩ = t := ⟨_, rfl⟩
            have top : ¬ m < t1 := by have := F1.tr; omega
            rw [ht1, HTR.out] at F2
            have HT1 := Lib.hid ht1
            have MY := Lib.hid F1.may
            have Z := F1.zero
            clear hs ho hb ht1 y0 c0 f0
            cases v1 with
            | false =>
              have hz := Z rfl
              injection hz with z1 z2 z3 z4 z5
              subst z1; subst z2; subst z3; subst z4; subst z5
              clear Z F2
              go_wp2_with fail
              refine (valid_c g m false 0 0 0 0 0 _ G.out).mono ?_; rintro e w15 ⟨rfl, hb15⟩
              have G := Lib.hid (G.out.keep hb15)
              have C := Lib.hid (C.out.keep hb15)
              have HB : Hid (Below w.heap.size w w15) := Below.trans HB.out (hb15.mono HB.out.size)
              clear hb15
              go_wp2_with fail
              refine (e_c g m false 0 0 0 0 0 _ G.out).mono ?_; rintro e w16 ⟨rfl, hb16⟩
              have G := Lib.hid (G.out.keep hb16)
              have C := Lib.hid (C.out.keep hb16)
              have HB : Hid (Below w.heap.size w w16) := Below.trans HB.out (hb16.mono HB.out.size)
              clear hb16
              go_wp2_with fail
              refine (ellmay_v 0 0 0 0 0 false MY.out _).mono ?_; rintro e w17 ⟨rfl, hb17⟩
              have G := Lib.hid (G.out.keep hb17)
              have C := Lib.hid (C.out.keep hb17)
              have HB : Hid (Below w.heap.size w w17) := Below.trans HB.out (hb17.mono HB.out.size)
              clear hb17
              go_wp2_with fail
              refine (valid_c g m false 0 0 0 0 0 _ G.out).mono ?_; rintro e w18 ⟨rfl, hb18⟩
              have G := Lib.hid (G.out.keep hb18)
              have C := Lib.hid (C.out.keep hb18)
              have HB : Hid (Below w.heap.size w w18) := Below.trans HB.out (hb18.mono HB.out.size)
              clear hb18
              go_wp2_with fail
              refine (e_c g m false 0 0 0 0 0 _ G.out).mono ?_; rintro e w19 ⟨rfl, hb19⟩
              have G := Lib.hid (G.out.keep hb19)
              have C := Lib.hid (C.out.keep hb19)
              have HB : Hid (Below w.heap.size w w19) := Below.trans HB.out (hb19.mono HB.out.size)
              clear hb19
              go_wp2_with fail
              refine (e_c g m false 0 0 0 0 0 _ G.out).mono ?_; rintro e w20 ⟨rfl, hb20⟩
              have G := Lib.hid (G.out.keep hb20)
              have C := Lib.hid (C.out.keep hb20)
              have HB : Hid (Below w.heap.size w w20) := Below.trans HB.out (hb20.mono HB.out.size)
              clear hb20
              go_wp2_with fail
              refine (trace_v 0 0 0 0 0 _ HT1.out _).mono ?_; rintro e w21 ⟨rfl, hb21⟩
              have G := Lib.hid (G.out.keep hb21)
              have C := Lib.hid (C.out.keep hb21)
              have HB : Hid (Below w.heap.size w w21) := Below.trans HB.out (hb21.mono HB.out.size)
              clear hb21
              obtain ⟨y0, c0, f0, -⟩ := bk_o C.out
              go_wp2_with fail
              refine (valid_c g m false 0 0 0 0 0 _ G.out).mono ?_; rintro e w22 ⟨rfl, hb22⟩
              have G := Lib.hid (G.out.keep hb22)
              have C := Lib.hid (C.out.keep hb22)
              have HB : Hid (Below w.heap.size w w22) := Below.trans HB.out (hb22.mono HB.out.size)
              clear hb22
              clear y0 c0 f0
              obtain ⟨y0, c0, f0, -⟩ := bk_o C.out
              go_wp2_with fail
              have hbw := HB.out
              have sw := hbw.size
              go_roundw
              case rel => exact ⟨k + 1, false, 0, 0, 0, 0, 0, by omega, by go_num, I1, G.out, HB.out⟩
              case measure => simp [intOf]; omega
            | true =>
              have F3 := F2 rfl rfl
              have le1 : ¬ t < t1 := by omega
              clear Z F2 F3
              go_wp2_with fail
              refine (valid_c g m true x1 y1 a1 b1 d1 _ G.out).mono ?_; rintro e w15 ⟨rfl, hb15⟩
              have G := Lib.hid (G.out.keep hb15)
              have C := Lib.hid (C.out.keep hb15)
              have HB : Hid (Below w.heap.size w w15) := Below.trans HB.out (hb15.mono HB.out.size)
              clear hb15
              go_wp2_with fail
              refine (e_c g m true x1 y1 a1 b1 d1 _ G.out).mono ?_; rintro e w16 ⟨rfl, hb16⟩
              have G := Lib.hid (G.out.keep hb16)
              have C := Lib.hid (C.out.keep hb16)
              have HB : Hid (Below w.heap.size w w16) := Below.trans HB.out (hb16.mono HB.out.size)
              clear hb16
              go_wp2_with fail
              refine (ellmay_v x1 y1 a1 b1 d1 true MY.out _).mono ?_; rintro e w17 ⟨rfl, hb17⟩
              have G := Lib.hid (G.out.keep hb17)
              have C := Lib.hid (C.out.keep hb17)
              have HB : Hid (Below w.heap.size w w17) := Below.trans HB.out (hb17.mono HB.out.size)
              clear hb17
              go_wp2_with fail
              refine (valid_c g m true x1 y1 a1 b1 d1 _ G.out).mono ?_; rintro e w18 ⟨rfl, hb18⟩
              have G := Lib.hid (G.out.keep hb18)
              have C := Lib.hid (C.out.keep hb18)
              have HB : Hid (Below w.heap.size w w18) := Below.trans HB.out (hb18.mono HB.out.size)
              clear hb18
              go_wp2_with fail
              refine (e_c g m true x1 y1 a1 b1 d1 _ G.out).mono ?_; rintro e w19 ⟨rfl, hb19⟩
              have G := Lib.hid (G.out.keep hb19)
              have C := Lib.hid (C.out.keep hb19)
              have HB : Hid (Below w.heap.size w w19) := Below.trans HB.out (hb19.mono HB.out.size)
              clear hb19
              go_wp2_with fail
              refine (trace_v x1 y1 a1 b1 d1 _ HT1.out _).mono ?_; rintro e w20 ⟨rfl, hb20⟩
              have G := Lib.hid (G.out.keep hb20)
              have C := Lib.hid (C.out.keep hb20)
              have HB : Hid (Below w.heap.size w w20) := Below.trans HB.out (hb20.mono HB.out.size)
              clear hb20
              obtain ⟨y0, c0, f0, -⟩ := bk_o C.out
              go_wp2_with fail
              refine (valid_c g m true x1 y1 a1 b1 d1 _ G.out).mono ?_; rintro e w21 ⟨rfl, hb21⟩
              have G := Lib.hid (G.out.keep hb21)
              have C := Lib.hid (C.out.keep hb21)
              have HB : Hid (Below w.heap.size w w21) := Below.trans HB.out (hb21.mono HB.out.size)
              clear hb21
              clear y0 c0 f0
              obtain ⟨y0, c0, f0, -⟩ := bk_o C.out
              go_wp2_with fail
              refine (e_c g m true x1 y1 a1 b1 d1 _ G.out).mono ?_; rintro e w22 ⟨rfl, hb22⟩
              have G := Lib.hid (G.out.keep hb22)
              have C := Lib.hid (C.out.keep hb22)
              have HB : Hid (Below w.heap.size w w22) := Below.trans HB.out (hb22.mono HB.out.size)
              clear hb22
              go_wp2_with fail
              refine (trace_v x1 y1 a1 b1 d1 _ HT1.out _).mono ?_; rintro e w23 ⟨rfl, hb23⟩
              have G := Lib.hid (G.out.keep hb23)
              have C := Lib.hid (C.out.keep hb23)
              have HB : Hid (Below w.heap.size w w23) := Below.trans HB.out (hb23.mono HB.out.size)
              clear hb23
              go_wp2_with fail
              have hbw := HB.out
              have sw := hbw.size
              go_roundw
              case rel => exact ⟨k + 1, true, x1, y1, a1, b1, d1, by omega, by go_num, I1, G.out, HB.out⟩
              case measure => simp [intOf]; omega
          · have b0 : (cn == 0) = false := by simp [d0]
            have b1 : (cn == 1) = false := by simp [d1]
            have b2 : (cn == 2) = false := by simp [d2]
            have b3 : (cn == 3) = false := by simp [d3]
            have I1 := HI
            have top : ¬ m < t := by have h1 := HI.out.tr; rw [HTR.out] at h1; omega
            have HT1 := HTR
            have MY := Lib.hid HI.out.may
            go_wp2_with fail
            clear y0 c0 f0
            refine (valid_c g m true x y a b d _ G.out).mono ?_; rintro e w14 ⟨rfl, hb14⟩
            have G := Lib.hid (G.out.keep hb14)
            have C := Lib.hid (C.out.keep hb14)
            have HB : Hid (Below w.heap.size w w14) := Below.trans HB.out (hb14.mono HB.out.size)
            clear hb14
            go_wp2_with fail
            refine (e_c g m true x y a b d _ G.out).mono ?_; rintro e w15 ⟨rfl, hb15⟩
            have G := Lib.hid (G.out.keep hb15)
            have C := Lib.hid (C.out.keep hb15)
            have HB : Hid (Below w.heap.size w w15) := Below.trans HB.out (hb15.mono HB.out.size)
            clear hb15
            go_wp2_with fail
            refine (ellmay_v x y a b d true MY.out _).mono ?_; rintro e w16 ⟨rfl, hb16⟩
            have G := Lib.hid (G.out.keep hb16)
            have C := Lib.hid (C.out.keep hb16)
            have HB : Hid (Below w.heap.size w w16) := Below.trans HB.out (hb16.mono HB.out.size)
            clear hb16
            go_wp2_with fail
            refine (valid_c g m true x y a b d _ G.out).mono ?_; rintro e w17 ⟨rfl, hb17⟩
            have G := Lib.hid (G.out.keep hb17)
            have C := Lib.hid (C.out.keep hb17)
            have HB : Hid (Below w.heap.size w w17) := Below.trans HB.out (hb17.mono HB.out.size)
            clear hb17
            go_wp2_with fail
            refine (e_c g m true x y a b d _ G.out).mono ?_; rintro e w18 ⟨rfl, hb18⟩
            have G := Lib.hid (G.out.keep hb18)
            have C := Lib.hid (C.out.keep hb18)
            have HB : Hid (Below w.heap.size w w18) := Below.trans HB.out (hb18.mono HB.out.size)
            clear hb18
            go_wp2_with fail
            refine (trace_v x y a b d _ HT1.out _).mono ?_; rintro e w19 ⟨rfl, hb19⟩
            have G := Lib.hid (G.out.keep hb19)
            have C := Lib.hid (C.out.keep hb19)
            have HB : Hid (Below w.heap.size w w19) := Below.trans HB.out (hb19.mono HB.out.size)
            clear hb19
            obtain ⟨y0, c0, f0, -⟩ := bk_o C.out
            go_wp2_with fail
            refine (valid_c g m true x y a b d _ G.out).mono ?_; rintro e w20 ⟨rfl, hb20⟩
            have G := Lib.hid (G.out.keep hb20)
            have C := Lib.hid (C.out.keep hb20)
            have HB : Hid (Below w.heap.size w w20) := Below.trans HB.out (hb20.mono HB.out.size)
            clear hb20
            clear y0 c0 f0
            obtain ⟨y0, c0, f0, -⟩ := bk_o C.out
            go_wp2_with fail
            have hbw := HB.out
            have sw := hbw.size
            go_roundw
            case rel => exact ⟨k + 1, true, x, y, a, b, d, by omega, by go_num, I1, G.out, HB.out⟩
            case measure => simp [intOf]; omega
      · have k3 : (40 : Int) ≤ k := by omega
        have hbw := HB.out
        go_wp2_with fail
        refine (awake18_c _).mono ?_; rintro e w6 ⟨rfl, hb6⟩
        have z6 := hb6.size; (try simp at z6)
        go_wp2
        go_ret
        exact ⟨rfl, (by repeat (first | with_reducible exact Below.refl _ _ | with_reducible exact Below_of_hid (by assumption) | with_reducible refine Below.drew ?_ | with_reducible refine below_drewN ?_ _ | (with_reducible refine Below_putRow ?_ ?hB _ _; case hB => (first | omega | (simp; done) | (simp; omega))) | (with_reducible refine Below.alloc ?_ ?hB _; case hB => (first | omega | (simp; done) | (simp; omega))) | (with_reducible refine Below.setCell ?_ ?hB _; case hB => (first | omega | (simp; done) | (simp; omega))) | (with_reducible refine Below.trans ?_ (Below.mono (by assumption) ?hB); case hB => (first | omega | (simp; done) | (simp; omega)))))⟩
    · have k1 : ¬ (k : Int) < len := by omega
      have hbw := HB.out
      go_wp2_with fail
      refine (awake18_c _).mono ?_; rintro e w6 ⟨rfl, hb6⟩
      have z6 := hb6.size; (try simp at z6)
      go_wp2
      go_ret
      exact ⟨rfl, (by repeat (first | with_reducible exact Below.refl _ _ | with_reducible exact Below_of_hid (by assumption) | with_reducible refine Below.drew ?_ | with_reducible refine below_drewN ?_ _ | (with_reducible refine Below_putRow ?_ ?hB _ _; case hB => (first | omega | (simp; done) | (simp; omega))) | (with_reducible refine Below.alloc ?_ ?hB _; case hB => (first | omega | (simp; done) | (simp; omega))) | (with_reducible refine Below.setCell ?_ ?hB _; case hB => (first | omega | (simp; done) | (simp; omega))) | (with_reducible refine Below.trans ?_ (Below.mono (by assumption) ?hB); case hB => (first | omega | (simp; done) | (simp; omega)))))⟩
end Go.Proofs.Ytfohihjeemmedaa
