/- The walk of FilterHolds. -/
import Derived.Test.YtilginoibhfeiaaGreatSq8
namespace Go.Proofs.YtilginoibhfeiaaGreat
open Go.RowKit

/-- The cells of a slice of a filter's steps. -/
def WalksAt (w : World) (A : Option Addr) (len : Nat) (T : Nat → Nat → Int) : Prop :=
  ∀ i : Nat, i < len → ∃ b o, A = some ⟨b, o, none⟩ ∧ b < w.heap.size ∧ ∀ j, j < 14 → w.cell? ⟨b, o + i * 14 + j, none⟩ = some (.int .i64 (T i j))
theorem rem_pos (k m : Int) (hm : 0 < m) : 0 ≤ (IntKind.u64.wrap k).tmod m ∧ (IntKind.u64.wrap k).tmod m < m := by
  have h : 0 ≤ IntKind.u64.wrap k := by rw [IntKind.wrap_u64]; exact Int.emod_nonneg _ (by decide)
  exact ⟨Int.tmod_nonneg _ h, Int.tmod_lt_of_pos _ hm⟩
theorem tmod_in (k m : Int) (hm : 0 < m) : -m < k.tmod m ∧ k.tmod m < m := ⟨Int.lt_tmod_of_pos k hm, Int.tmod_lt_of_pos k hm⟩
theorem pt_put {w : World} {g : Nat} {a b x y : Int} {t : TypeId} (h : Blk w g #[.int .i64 a, .int .i64 b] t) : Blk ((w.setCell ⟨g, 0, none⟩ (.int .i64 x)).setCell ⟨g, 1, none⟩ (.int .i64 y)) g #[.int .i64 x, .int .i64 y] t := by
  have h1 := (h.setCell_same 0 (.int .i64 x)).setCell_same 1 (.int .i64 y)
  exact h1
theorem hold_near {e : El} {p q : Int} (h : e.has p q = true) : -12582912 ≤ p ∧ p ≤ 12582912 ∧ -12582912 ≤ q ∧ q ≤ 12582912 := by
  have n := El.near e p q h
  have m := ((El.may_iff _).1 ((El.has_iff _ _ _).1 h).1).1
  omega
set_option maxRecDepth 100000 in
set_option maxHeartbeats 16000000 in
theorem filterHolds_c (most x y a b d p q err : Int) (A : Option Addr) (len cap : Nat) (T : Nat → Nat → Int) (w : World) (hT : WalksAt w A len T) (hlen : len ≤ 9223372036854775807) :
    Calls Tryz.prog 5 #[.int .i64 most, elC x y a b d, ptV p q, .int .i64 err, .slice A len cap] w fun e w' => e = .returned (.bool true) ∧ Below w.heap.size w w' := by
  have HT := Lib.hid hT
  clear hT
  obtain ⟨m, hm⟩ : ∃ m, max 2 most = m := ⟨_, rfl⟩
  obtain ⟨er, her⟩ : ∃ K, (IntKind.u64.wrap err).tmod 100 = K := ⟨_, rfl⟩
  obtain ⟨er1, er2⟩ : 0 ≤ er ∧ er < 100 := by rw [← her]; exact rem_pos err 100 (by decide)
  obtain ⟨h1, hh1⟩ : ∃ h, El.has ⟨x, y, a, b, d⟩ p q = h := ⟨_, rfl⟩
  have H1 := Lib.hid hh1
  clear hh1
  go_enter Tryz.func5, Tryz.ntmps5
  go_wp2_with fail
  obtain ⟨u0, hu0⟩ : ∃ u, u = ((w).alloc (Obj.cells #[.int .i64 x, .int .i64 y, .int .i64 a, .int .i64 b, .int .i64 d] 27)).alloc (Obj.cells #[.int .i64 p, .int .i64 q] 23) := ⟨_, rfl⟩
  rw [← hu0]
  have HB : Hid (Below w.heap.size w u0) := by rw [hu0]; show Below w.heap.size w _; exact below_byR
  have X0 : Hid (Blk u0 (w.heap.size) #[.int .i64 x, .int .i64 y, .int .i64 a, .int .i64 b, .int .i64 d] 27) := by rw [hu0]; exact (Blk.new' _ _ _ (by simp)).alloc _
  have X1 : Hid (Blk u0 (w.heap.size + 1) #[.int .i64 p, .int .i64 q] 23) := by rw [hu0]; exact Blk.new' _ _ _ (by simp)
  clear hu0
  refine Calls.mono (new_c _ _) ?_
  rintro e x1 ⟨g, rfl, lg, B1, hb⟩
  rw [hm] at B1
  have G := Lib.hid B1
  have lgw : w.heap.size + 1 < g := by have := X1.out.lt; omega
  clear B1 lg
  replace X0 := Lib.hid (X0.out.keep hb)
  replace X1 := Lib.hid (X1.out.keep hb)
  replace HB := Lib.hid (HB.out.trans (hb.mono HB.out.size))
  clear hb
  have hg0 : ¬ (w.heap.size = g) := by omega
  have hg1 : ¬ (w.heap.size + 1 = g) := by omega
  have lw : w.heap.size ≤ g := by omega
  have qX0_0 := X0.out.cell (i := 0) (v := .int .i64 x) rfl
  have qX0_1 := X0.out.cell (i := 1) (v := .int .i64 y) rfl
  have qX0_2 := X0.out.cell (i := 2) (v := .int .i64 a) rfl
  have qX0_3 := X0.out.cell (i := 3) (v := .int .i64 b) rfl
  have qX0_4 := X0.out.cell (i := 4) (v := .int .i64 d) rfl
  have rl_X0 := X0.out.lt
  have qX1_0 := X1.out.cell (i := 0) (v := .int .i64 p) rfl
  have qX1_1 := X1.out.cell (i := 1) (v := .int .i64 q) rfl
  have rl_X1 := X1.out.lt
  go_wp2_with fail
  clear qX0_0 qX0_1 qX0_2 qX0_3 qX0_4 rl_X0 qX1_0 qX1_1 rl_X1
  refine Calls.mono (ellin_v _ _ _ _ _ _ _ _ H1.out _) ?_
  rintro e x2 ⟨rfl, hb⟩
  replace X0 := Lib.hid (X0.out.keep hb)
  replace X1 := Lib.hid (X1.out.keep hb)
  replace G := Lib.hid (G.out.keep hb)
  replace HB := Lib.hid (HB.out.trans (hb.mono HB.out.size))
  clear hb
  cases h1 with
  | false =>
    go_wp2_with fail
    refine Calls.mono (awake18_c _) ?_
    rintro e x3 ⟨rfl, hb⟩
    replace X0 := Lib.hid (X0.out.keep hb)
    replace X1 := Lib.hid (X1.out.keep hb)
    replace G := Lib.hid (G.out.keep hb)
    replace HB := Lib.hid (HB.out.trans (hb.mono HB.out.size))
    clear hb
    go_wp2_with fail
    go_ret
    exact ⟨rfl, HB.out⟩
  | true =>
    have qX0_0 := X0.out.cell (i := 0) (v := .int .i64 x) rfl
    have qX0_1 := X0.out.cell (i := 1) (v := .int .i64 y) rfl
    have qX0_2 := X0.out.cell (i := 2) (v := .int .i64 a) rfl
    have qX0_3 := X0.out.cell (i := 3) (v := .int .i64 b) rfl
    have qX0_4 := X0.out.cell (i := 4) (v := .int .i64 d) rfl
    have rl_X0 := X0.out.lt
    go_wp2_with fail
    clear qX0_0 qX0_1 qX0_2 qX0_3 qX0_4 rl_X0
    have nX0 := hg0
    have nX1 := hg1
    refine Calls.mono (set_c g m false 0 0 0 0 0 x y a b d _ G.out) ?_
    rintro e x3 ⟨v1, ⟨z1, z2, z3, z4, z5⟩, kk, hs, rfl, ho, hb⟩
    have FF := Lib.hid (fh_set (fh_lost _ p q) H1.out hs)
    replace X0 := Lib.hid (ho.blk X0.out nX0)
    replace X1 := Lib.hid (ho.blk X1.out nX1)
    replace HB : Hid (Below w.heap.size w x3) := OnlyAt.below ho HB.out (Nat.le_refl _) lw
    replace G := Lib.hid hb
    clear hs ho hb
    go_wp2_with fail
    have HP0 := Lib.hid (hold_near H1.out)
    clear her hm
    go_loopw [35] (fun ti wr => ∃ (k : Nat) (v : Bool) (x y a b d P Q : Int), k ≤ len ∧ ti = .int .i64 k ∧ Hid (FH v ⟨x, y, a, b, d⟩ P Q) ∧ Hid (-(12582912 + 1100 * (k : Int)) ≤ P ∧ P ≤ 12582912 + 1100 * (k : Int) ∧ -(12582912 + 1100 * (k : Int)) ≤ Q ∧ Q ≤ 12582912 + 1100 * (k : Int)) ∧ Hid (Blk wr g (flt m v x y a b d) 112) ∧ Hid (Blk wr (w.heap.size + 1) #[.int .i64 P, .int .i64 Q] 23) ∧ Hid (Below w.heap.size w wr)) (fun ti _ => len - (intOf ti).toNat)
    case atStart => exact ⟨0, v1, z1, z2, z3, z4, z5, p, q, by omega, rfl, FF, by have := HP0.out; show _ ∧ _; omega, G, X1, HB⟩
    case round =>
      clear FF HP0 G X0 X1 HB
      obtain ⟨k, v, x, y, a, b, d, P, Q, hk, rfl, FF, HPQ, G, X1, HB⟩ := hrel
      have sr := HB.out.size
      have lgr := G.out.lt
      have lx1 := X1.out.lt
      by_cases hlt : k < len
      · obtain ⟨mb, mo, rfl, hmb, hc⟩ := HT.out k hlt
        obtain ⟨cn, hz0⟩ : ∃ z, T k 0 = z := ⟨_, rfl⟩
        obtain ⟨ux0, hz1⟩ : ∃ z, T k 1 = z := ⟨_, rfl⟩
        obtain ⟨uy0, hz2⟩ : ∃ z, T k 2 = z := ⟨_, rfl⟩
        obtain ⟨dx0, hz3⟩ : ∃ z, T k 3 = z := ⟨_, rfl⟩
        obtain ⟨dy0, hz4⟩ : ∃ z, T k 4 = z := ⟨_, rfl⟩
        obtain ⟨n1, hz5⟩ : ∃ z, T k 5 = z := ⟨_, rfl⟩
        obtain ⟨n2, hz6⟩ : ∃ z, T k 6 = z := ⟨_, rfl⟩
        obtain ⟨n3, hz7⟩ : ∃ z, T k 7 = z := ⟨_, rfl⟩
        obtain ⟨n4, hz8⟩ : ∃ z, T k 8 = z := ⟨_, rfl⟩
        obtain ⟨n5, hz9⟩ : ∃ z, T k 9 = z := ⟨_, rfl⟩
        obtain ⟨qx, hz10⟩ : ∃ z, T k 10 = z := ⟨_, rfl⟩
        obtain ⟨qy, hz11⟩ : ∃ z, T k 11 = z := ⟨_, rfl⟩
        obtain ⟨wd, hz12⟩ : ∃ z, T k 12 = z := ⟨_, rfl⟩
        obtain ⟨ov, hz13⟩ : ∃ z, T k 13 = z := ⟨_, rfl⟩
        have c0 := hc 0 (by decide)
        rw [hz0] at c0
        have q0 : wr.cell? ⟨mb, mo + k * 14, none⟩ = some (.int .i64 cn) := (HB.out.cell (p := ⟨mb, mo + k * 14, none⟩) hmb).trans c0
        have c1 := hc 1 (by decide)
        rw [hz1] at c1
        have q1 : wr.cell? ⟨mb, mo + k * 14 + 1, none⟩ = some (.int .i64 ux0) := (HB.out.cell (p := ⟨mb, mo + k * 14 + 1, none⟩) hmb).trans c1
        have c2 := hc 2 (by decide)
        rw [hz2] at c2
        have q2 : wr.cell? ⟨mb, mo + k * 14 + 2, none⟩ = some (.int .i64 uy0) := (HB.out.cell (p := ⟨mb, mo + k * 14 + 2, none⟩) hmb).trans c2
        have c3 := hc 3 (by decide)
        rw [hz3] at c3
        have q3 : wr.cell? ⟨mb, mo + k * 14 + 3, none⟩ = some (.int .i64 dx0) := (HB.out.cell (p := ⟨mb, mo + k * 14 + 3, none⟩) hmb).trans c3
        have c4 := hc 4 (by decide)
        rw [hz4] at c4
        have q4 : wr.cell? ⟨mb, mo + k * 14 + 4, none⟩ = some (.int .i64 dy0) := (HB.out.cell (p := ⟨mb, mo + k * 14 + 4, none⟩) hmb).trans c4
        have c5 := hc 5 (by decide)
        rw [hz5] at c5
        have q5 : wr.cell? ⟨mb, mo + k * 14 + 5, none⟩ = some (.int .i64 n1) := (HB.out.cell (p := ⟨mb, mo + k * 14 + 5, none⟩) hmb).trans c5
        have c6 := hc 6 (by decide)
        rw [hz6] at c6
        have q6 : wr.cell? ⟨mb, mo + k * 14 + 6, none⟩ = some (.int .i64 n2) := (HB.out.cell (p := ⟨mb, mo + k * 14 + 6, none⟩) hmb).trans c6
        have c7 := hc 7 (by decide)
        rw [hz7] at c7
        have q7 : wr.cell? ⟨mb, mo + k * 14 + 7, none⟩ = some (.int .i64 n3) := (HB.out.cell (p := ⟨mb, mo + k * 14 + 7, none⟩) hmb).trans c7
        have c8 := hc 8 (by decide)
        rw [hz8] at c8
        have q8 : wr.cell? ⟨mb, mo + k * 14 + 8, none⟩ = some (.int .i64 n4) := (HB.out.cell (p := ⟨mb, mo + k * 14 + 8, none⟩) hmb).trans c8
        have c9 := hc 9 (by decide)
        rw [hz9] at c9
        have q9 : wr.cell? ⟨mb, mo + k * 14 + 9, none⟩ = some (.int .i64 n5) := (HB.out.cell (p := ⟨mb, mo + k * 14 + 9, none⟩) hmb).trans c9
        have c10 := hc 10 (by decide)
        rw [hz10] at c10
        have q10 : wr.cell? ⟨mb, mo + k * 14 + 10, none⟩ = some (.int .i64 qx) := (HB.out.cell (p := ⟨mb, mo + k * 14 + 10, none⟩) hmb).trans c10
        have c11 := hc 11 (by decide)
        rw [hz11] at c11
        have q11 : wr.cell? ⟨mb, mo + k * 14 + 11, none⟩ = some (.int .i64 qy) := (HB.out.cell (p := ⟨mb, mo + k * 14 + 11, none⟩) hmb).trans c11
        have c12 := hc 12 (by decide)
        rw [hz12] at c12
        have q12 : wr.cell? ⟨mb, mo + k * 14 + 12, none⟩ = some (.int .i64 wd) := (HB.out.cell (p := ⟨mb, mo + k * 14 + 12, none⟩) hmb).trans c12
        have c13 := hc 13 (by decide)
        rw [hz13] at c13
        have q13 : wr.cell? ⟨mb, mo + k * 14 + 13, none⟩ = some (.int .i64 ov) := (HB.out.cell (p := ⟨mb, mo + k * 14 + 13, none⟩) hmb).trans c13
        have mb1 : mb < wr.heap.size := Nat.lt_of_lt_of_le hmb sr
        have k1 : (k : Int) < len := by omega
        have k2 : (0 : Int) ≤ k := by omega
        clear hc hz0 c0 hz1 c1 hz2 c2 hz3 c3 hz4 c4 hz5 c5 hz6 c6 hz7 c7 hz8 c8 hz9 c9 hz10 c10 hz11 c11 hz12 c12 hz13 c13
        by_cases h30 : k < 30
        · have k3 : ¬ (30 : Int) ≤ k := by omega
          obtain ⟨w0, hw0⟩ : ∃ w0, w0 = wr.alloc (Obj.cells #[.int .i64 cn, .int .i64 ux0, .int .i64 uy0, .int .i64 dx0, .int .i64 dy0, .int .i64 n1, .int .i64 n2, .int .i64 n3, .int .i64 n4, .int .i64 n5, .int .i64 qx, .int .i64 qy, .int .i64 wd, .int .i64 ov] 50) := ⟨_, rfl⟩
          have hcn : cn = 0 ∨ cn = 1 ∨ (¬ cn = 0 ∧ ¬ cn = 1) := by omega
          have QQ := hmb
          rcases hcn with rfl | rfl | ⟨d0, d1⟩
          · obtain ⟨ux, hux⟩ : ∃ z, ux0.tmod 1000 = z := ⟨_, rfl⟩
            obtain ⟨uy, huy⟩ : ∃ z, uy0.tmod 1000 = z := ⟨_, rfl⟩
            obtain ⟨dx, hdx⟩ : ∃ z, dx0.tmod 100 = z := ⟨_, rfl⟩
            obtain ⟨dy, hdy⟩ : ∃ z, dy0.tmod 100 = z := ⟨_, rfl⟩
            have bux := tmod_in ux0 1000 (by decide)
            have buy := tmod_in uy0 1000 (by decide)
            have bdx := tmod_in dx0 100 (by decide)
            have bdy := tmod_in dy0 100 (by decide)
            rw [hux] at bux
            rw [huy] at buy
            rw [hdx] at bdx
            rw [hdy] at bdy
            obtain ⟨m1, hm1⟩ : ∃ z, dx * dx = z := ⟨_, rfl⟩
            obtain ⟨m2, hm2⟩ : ∃ z, dy * dy = z := ⟨_, rfl⟩
            obtain ⟨rr, hrr⟩ : ∃ z, er * er = z := ⟨_, rfl⟩
            have bm1 := sqb dx 100 (by omega) (by omega)
            have bm2 := sqb dy 100 (by omega) (by omega)
            have brr := sqb er 100 (by omega) (by omega)
            rw [hm1] at bm1
            rw [hm2] at bm2
            rw [hrr] at brr
            obtain ⟨SS, hSS⟩ : ∃ z, m1 + m2 = z := ⟨_, rfl⟩
            have bSS : 0 ≤ SS ∧ SS ≤ 20000 := by omega
            obtain ⟨P2, hP2⟩ : ∃ z, P + ux + dx = z := ⟨_, rfl⟩
            obtain ⟨Q2, hQ2⟩ : ∃ z, Q + uy + dy = z := ⟨_, rfl⟩
            have HMV : Hid (-1100 ≤ P2 - P ∧ P2 - P ≤ 1100 ∧ -1100 ≤ Q2 - Q ∧ Q2 - Q ≤ 1100) := by show _ ∧ _; omega
            have pq := HPQ.out
            have e1 : -13000000 ≤ P ∧ P ≤ 13000000 := by omega
            have e2 : -13000000 ≤ Q ∧ Q ≤ 13000000 := by omega
            obtain ⟨e3, e4⟩ := e1
            obtain ⟨e5, e6⟩ := e2
            obtain ⟨bux1, bux2⟩ := bux
            obtain ⟨buy1, buy2⟩ := buy
            obtain ⟨bdx1, bdx2⟩ := bdx
            obtain ⟨bdy1, bdy2⟩ := bdy
            obtain ⟨bm11, bm12⟩ := bm1
            obtain ⟨bm21, bm22⟩ := bm2
            obtain ⟨brr1, brr2⟩ := brr
            obtain ⟨bSS1, bSS2⟩ := bSS
            have HDD : Hid (dx * dx + dy * dy = SS) := by show _ = _; rw [hm1, hm2, hSS]
            have HER : Hid (er * er = rr) := hrr
            clear pq
            have lX1 := X1.out.lt
            have lX2 : w.heap.size < wr.heap.size := by omega
            have cX0 := X1.out.cell (i := 0) (v := .int .i64 P) rfl
            have cX1 := X1.out.cell (i := 1) (v := .int .i64 Q) rfl
            have fX1 := X1.out.frozen
            have tX1 := X1.out.fits 2 (by simp)
            have nwx : ¬ (wr.heap.size = w.heap.size + 1) := by omega
            by_cases hgt : rr < SS
            · have hbw := HB.out
              go_wp2_with fail
              go_roundw
              case rel => exact ⟨k + 1, v, x, y, a, b, d, P, Q, by omega, by go_num, FF, by have := HPQ.out; show _ ∧ _; omega, ((G.out.alloc _).alloc _).alloc _, ((X1.out.alloc _).alloc _).alloc _, ((hbw.alloc (by omega) _).alloc (by simp; omega) _).alloc (by simp; omega) _⟩
              case measure => simp [intOf]; omega
            · have hle : ¬ rr < SS := hgt
              go_wp2_with fail
              obtain ⟨v5, hv5⟩ : ∃ v5, v5 = ((((wr.setCell ⟨w.heap.size + 1, 0, none⟩ (.int .i64 P2)).setCell ⟨w.heap.size + 1, 1, none⟩ (.int .i64 Q2)).alloc (Obj.cells #[.int .i64 0, .int .i64 ux0, .int .i64 uy0, .int .i64 dx0, .int .i64 dy0, .int .i64 n1, .int .i64 n2, .int .i64 n3, .int .i64 n4, .int .i64 n5, .int .i64 qx, .int .i64 qy, .int .i64 wd, .int .i64 ov] 50)).alloc (Obj.cells #[.int .i64 ux, .int .i64 uy] 23)).alloc (Obj.cells #[.int .i64 dx, .int .i64 dy] 23) := ⟨_, rfl⟩
              rw [← hv5]
              have G5 : Hid (Blk v5 g (flt m v x y a b d) 112) := by rw [hv5]; exact ((((G.out.setCell_other (show ¬ g = w.heap.size + 1 from fun h => hg1 h.symm) _).setCell_other (show ¬ g = w.heap.size + 1 from fun h => hg1 h.symm) _).alloc _).alloc _).alloc _
              have X15 : Hid (Blk v5 (w.heap.size + 1) #[.int .i64 P2, .int .i64 Q2] 23) := by rw [hv5]; exact (((pt_put X1.out).alloc _).alloc _).alloc _
              have HB5 : Hid (Below w.heap.size w v5) := by rw [hv5]; have hbw := HB.out; exact ((((hbw.setCell (by simp) _).setCell (by simp) _).alloc (by simp; omega) _).alloc (by simp; omega) _).alloc (by simp; omega) _
              clear hw0 hv5 cX0 cX1 fX1 tX1 lX1 lX2 G X1 HB q0 q1 q2 q3 q4 q5 q6 q7 q8 q9 q10 q11 q12 q13
              have G := G5
              have X1 := X15
              have HB := HB5
              clear G5 X15 HB5
              have nX1 := hg1
              refine Calls.mono (move_c g m v x y a b d ux uy er _ G.out) ?_
              rintro e x1 ⟨v1, ⟨z1, z2, z3, z4, z5⟩, kk, hs, rfl, ho, hb⟩
              have FF := Lib.hid (show FH v1 ⟨z1, z2, z3, z4, z5⟩ P2 Q2 by rw [← hP2, ← hQ2]; exact fh_move FF.out (by omega) (by omega) (by omega) (by rw [HDD.out, HER.out]; omega) hs)
              replace X1 := Lib.hid (ho.blk X1.out nX1)
              replace HB : Hid (Below w.heap.size w x1) := OnlyAt.below ho HB.out (Nat.le_refl _) lw
              replace G := Lib.hid hb
              clear hs ho hb
              cases v1 with
              | false =>
                go_wp2_with fail
                have qX1_0 := cell_regrown (X1.out.cell (i := 0) (v := .int .i64 P2) rfl)
                have qX1_1 := cell_regrown (X1.out.cell (i := 1) (v := .int .i64 Q2) rfl)
                refine wp_region_quiet_below (by kernel_rfl) (by kernel_rfl) ?_
                repeat (go_big_quiet_step (first
                  | (go_at_call 29; exact Calls.regrown_of (valid_c g m false z1 z2 z3 z4 z5 _ (Blk.keep G.out (below_regrown _ _ _))))))
                refine wpQuiet_nil ?_
                intro x2 hw
                have hb := below_of_regrown hw
                clear hw qX1_0 qX1_1
                replace G := Lib.hid (G.out.keep hb)
                replace X1 := Lib.hid (X1.out.keep hb)
                replace HB := Lib.hid (HB.out.trans (hb.mono HB.out.size))
                clear hb
                have hbw := HB.out
                have sw := hbw.size
                go_wp2_with fail
                go_roundw
                case rel => exact ⟨k + 1, false, z1, z2, z3, z4, z5, P2, Q2, by omega, by go_num, FF, by have := HPQ.out; have := HMV.out; show _ ∧ _; omega, G, X1, HB⟩
                case measure => simp [intOf]; omega
              | true =>
                have HIN := Lib.hid (FF.out rfl)
                go_wp2_with fail
                have qX1_0 := cell_regrown (X1.out.cell (i := 0) (v := .int .i64 P2) rfl)
                have qX1_1 := cell_regrown (X1.out.cell (i := 1) (v := .int .i64 Q2) rfl)
                refine wp_region_quiet_below (by kernel_rfl) (by kernel_rfl) ?_
                repeat (go_big_quiet_step (first
                  | (go_at_call 29; exact Calls.regrown_of (valid_c g m true z1 z2 z3 z4 z5 _ (Blk.keep G.out (below_regrown _ _ _))))
                  | (go_at_call 30; exact Calls.regrown_of (e_c g m true z1 z2 z3 z4 z5 _ (Blk.keep G.out (below_regrown _ _ _))))
                  | (go_at_call 16; exact Calls.regrown_of (ellin_v _ _ _ _ _ _ _ _ HIN.out _))))
                refine wpQuiet_nil ?_
                intro x2 hw
                have hb := below_of_regrown hw
                clear hw qX1_0 qX1_1
                replace G := Lib.hid (G.out.keep hb)
                replace X1 := Lib.hid (X1.out.keep hb)
                replace HB := Lib.hid (HB.out.trans (hb.mono HB.out.size))
                clear hb
                have hbw := HB.out
                have sw := hbw.size
                go_wp2_with fail
                go_roundw
                case rel => exact ⟨k + 1, true, z1, z2, z3, z4, z5, P2, Q2, by omega, by go_num, FF, by have := HPQ.out; have := HMV.out; show _ ∧ _; omega, G, X1, HB⟩
                case measure => simp [intOf]; omega
          · cases hn : El.has ⟨n1, n2, n3, n4, n5⟩ qx qy with
            | false =>
              have HN := Lib.hid hn
              clear hn
              go_wp2_with fail
              rw [← hw0]
              have C : Hid (Blk w0 wr.heap.size #[.int .i64 1, .int .i64 ux0, .int .i64 uy0, .int .i64 dx0, .int .i64 dy0, .int .i64 n1, .int .i64 n2, .int .i64 n3, .int .i64 n4, .int .i64 n5, .int .i64 qx, .int .i64 qy, .int .i64 wd, .int .i64 ov] 50) := by rw [hw0]; exact Blk.new _ _ _
              have hb : Below wr.heap.size wr w0 := by rw [hw0]; exact (Below.refl _ _).alloc (Nat.le_refl _) _
              replace G := Lib.hid (G.out.keep hb)
              replace X1 := Lib.hid (X1.out.keep hb)
              replace HB := Lib.hid (HB.out.trans (hb.mono HB.out.size))
              clear hb
              clear hw0 q0 q1 q2 q3 q4 q5 q6 q7 q8 q9 q10 q11 q12 q13
              have nC : ¬ (wr.heap.size = g) := by omega
              have gC : w.heap.size ≤ wr.heap.size := sr
              have qX1_0 := cell_regrown (X1.out.cell (i := 0) (v := .int .i64 P) rfl)
              have qX1_1 := cell_regrown (X1.out.cell (i := 1) (v := .int .i64 Q) rfl)
              have qC_0 := cell_regrown (C.out.cell (i := 0) (v := .int .i64 1) rfl)
              have qC_1 := cell_regrown (C.out.cell (i := 1) (v := .int .i64 ux0) rfl)
              have qC_2 := cell_regrown (C.out.cell (i := 2) (v := .int .i64 uy0) rfl)
              have qC_3 := cell_regrown (C.out.cell (i := 3) (v := .int .i64 dx0) rfl)
              have qC_4 := cell_regrown (C.out.cell (i := 4) (v := .int .i64 dy0) rfl)
              have qC_5 := cell_regrown (C.out.cell (i := 5) (v := .int .i64 n1) rfl)
              have qC_6 := cell_regrown (C.out.cell (i := 6) (v := .int .i64 n2) rfl)
              have qC_7 := cell_regrown (C.out.cell (i := 7) (v := .int .i64 n3) rfl)
              have qC_8 := cell_regrown (C.out.cell (i := 8) (v := .int .i64 n4) rfl)
              have qC_9 := cell_regrown (C.out.cell (i := 9) (v := .int .i64 n5) rfl)
              have qC_10 := cell_regrown (C.out.cell (i := 10) (v := .int .i64 qx) rfl)
              have qC_11 := cell_regrown (C.out.cell (i := 11) (v := .int .i64 qy) rfl)
              have qC_12 := cell_regrown (C.out.cell (i := 12) (v := .int .i64 wd) rfl)
              have qC_13 := cell_regrown (C.out.cell (i := 13) (v := .int .i64 ov) rfl)
              refine wp_region_quiet_below (by kernel_rfl) (by kernel_rfl) ?_
              repeat (go_big_quiet_step (fail))
              refine wpQuiet_nil ?_
              intro x1 hw
              have hb := below_of_regrown hw
              clear hw qX1_0 qX1_1 qC_0 qC_1 qC_2 qC_3 qC_4 qC_5 qC_6 qC_7 qC_8 qC_9 qC_10 qC_11 qC_12 qC_13
              replace G := Lib.hid (G.out.keep hb)
              replace X1 := Lib.hid (X1.out.keep hb)
              replace C := Lib.hid (C.out.keep hb)
              replace HB := Lib.hid (HB.out.trans (hb.mono HB.out.size))
              clear hb
              have qC_0 := C.out.cell (i := 0) (v := .int .i64 1) rfl
              have qC_1 := C.out.cell (i := 1) (v := .int .i64 ux0) rfl
              have qC_2 := C.out.cell (i := 2) (v := .int .i64 uy0) rfl
              have qC_3 := C.out.cell (i := 3) (v := .int .i64 dx0) rfl
              have qC_4 := C.out.cell (i := 4) (v := .int .i64 dy0) rfl
              have qC_5 := C.out.cell (i := 5) (v := .int .i64 n1) rfl
              have qC_6 := C.out.cell (i := 6) (v := .int .i64 n2) rfl
              have qC_7 := C.out.cell (i := 7) (v := .int .i64 n3) rfl
              have qC_8 := C.out.cell (i := 8) (v := .int .i64 n4) rfl
              have qC_9 := C.out.cell (i := 9) (v := .int .i64 n5) rfl
              have qC_10 := C.out.cell (i := 10) (v := .int .i64 qx) rfl
              have qC_11 := C.out.cell (i := 11) (v := .int .i64 qy) rfl
              have qC_12 := C.out.cell (i := 12) (v := .int .i64 wd) rfl
              have qC_13 := C.out.cell (i := 13) (v := .int .i64 ov) rfl
              have rl_C := C.out.lt
              go_wp2_with fail
              clear qC_0 qC_1 qC_2 qC_3 qC_4 qC_5 qC_6 qC_7 qC_8 qC_9 qC_10 qC_11 qC_12 qC_13 rl_C
              refine Calls.mono (ellin_v _ _ _ _ _ _ _ _ HN.out _) ?_
              rintro e x2 ⟨rfl, hb⟩
              replace G := Lib.hid (G.out.keep hb)
              replace X1 := Lib.hid (X1.out.keep hb)
              replace C := Lib.hid (C.out.keep hb)
              replace HB := Lib.hid (HB.out.trans (hb.mono HB.out.size))
              clear hb
              have hbw := HB.out
              have sw := hbw.size
              go_wp2_with fail
              go_roundw
              case rel => exact ⟨k + 1, v, x, y, a, b, d, P, Q, by omega, by go_num, FF, by have := HPQ.out; show _ ∧ _; omega, G, X1, HB⟩
              case measure => simp [intOf]; omega
            | true =>
              have HN := Lib.hid hn
              have qb := hold_near hn
              have pq := HPQ.out
              obtain ⟨s1, hs1⟩ : ∃ K, (IntKind.u64.wrap wd).tmod 500 = K := ⟨_, rfl⟩
              obtain ⟨r1, r2⟩ : 0 ≤ s1 ∧ s1 < 500 := by rw [← hs1]; exact rem_pos wd 500 (by decide)
              obtain ⟨s2, hs2⟩ : ∃ K, (IntKind.u64.wrap ov).tmod 500 = K := ⟨_, rfl⟩
              obtain ⟨r3, r4⟩ : 0 ≤ s2 ∧ s2 < 500 := by rw [← hs2]; exact rem_pos ov 500 (by decide)
              obtain ⟨D, hD⟩ : ∃ D, rtI ((P - qx) * (P - qx) + (Q - qy) * (Q - qy)) = D := ⟨_, rfl⟩
              have HD0 := Lib.hid hD
              obtain ⟨lo, hlo⟩ : ∃ K, max 0 (D - s1) = K := ⟨_, rfl⟩
              obtain ⟨hi, hhi⟩ : ∃ K, D + 1 + s2 = K := ⟨_, rfl⟩
              obtain ⟨dx, hdx⟩ : ∃ K, P - qx = K := ⟨_, rfl⟩
              obtain ⟨dy, hdy⟩ : ∃ K, Q - qy = K := ⟨_, rfl⟩
              have bx : -33554432 ≤ dx ∧ dx ≤ 33554432 := by omega
              have bY : -33554432 ≤ dy ∧ dy ≤ 33554432 := by omega
              rw [hdx, hdy] at hD
              have wx : IntKind.i64.wrap dx = dx := by rw [IntKind.wrap_i64]; omega
              have wy : IntKind.i64.wrap dy = dy := by rw [IntKind.wrap_i64]; omega
              have bm1 := sqb dx 33554432 (by omega) (by omega)
              have bm2 := sqb dy 33554432 (by omega) (by omega)
              obtain ⟨m1, hm1⟩ : ∃ K, dx * dx = K := ⟨_, rfl⟩
              obtain ⟨m2, hm2⟩ : ∃ K, dy * dy = K := ⟨_, rfl⟩
              rw [hm1] at bm1 hD
              rw [hm2] at bm2 hD
              obtain ⟨S, hS⟩ : ∃ K, m1 + m2 = K := ⟨_, rfl⟩
              rw [hS] at hD
              have HD := Lib.hid hD
              have SB : 0 ≤ S ∧ S ≤ 2251799813685248 := by omega
              have HSB : Hid (-9223372036854775808 ≤ S ∧ S ≤ 9223372036854775807) := ⟨by omega, by omega⟩
              have DB : 0 ≤ D ∧ D ≤ 67108864 := by
                have h3 := rtI_spec S SB.1
                rw [hD] at h3
                rcases rtI_lt S 67108864 (by decide) (by omega) with h4 | h4
                · rw [hD] at h4; omega
                · omega
              obtain ⟨D0, D1⟩ := DB
              obtain ⟨bm11, bm12⟩ := bm1
              obtain ⟨bm21, bm22⟩ := bm2
              obtain ⟨bx1, bx2⟩ := bx
              obtain ⟨by1, by2⟩ := bY
              have lo0 : 0 ≤ lo ∧ lo ≤ 67108864 := by omega
              have hi0 : 0 ≤ hi ∧ hi ≤ 67109864 := by omega
              obtain ⟨lo1, lo2⟩ := lo0
              obtain ⟨hi1, hi2⟩ := hi0
              have HS1 := Lib.hid hs1
              have HS2 := Lib.hid hs2
              have HLO := Lib.hid hlo
              have HHI := Lib.hid hhi
              clear hn qb pq hD SB hs1 hs2 hlo hhi
              go_wp2_with fail
              rw [← hw0]
              have C : Hid (Blk w0 wr.heap.size #[.int .i64 1, .int .i64 ux0, .int .i64 uy0, .int .i64 dx0, .int .i64 dy0, .int .i64 n1, .int .i64 n2, .int .i64 n3, .int .i64 n4, .int .i64 n5, .int .i64 qx, .int .i64 qy, .int .i64 wd, .int .i64 ov] 50) := by rw [hw0]; exact Blk.new _ _ _
              have hb : Below wr.heap.size wr w0 := by rw [hw0]; exact (Below.refl _ _).alloc (Nat.le_refl _) _
              replace G := Lib.hid (G.out.keep hb)
              replace X1 := Lib.hid (X1.out.keep hb)
              replace HB := Lib.hid (HB.out.trans (hb.mono HB.out.size))
              clear hb
              clear hw0 q0 q1 q2 q3 q4 q5 q6 q7 q8 q9 q10 q11 q12 q13
              have nC : ¬ (wr.heap.size = g) := by omega
              have gC : w.heap.size ≤ wr.heap.size := sr
              have qX1_0 := cell_regrown (X1.out.cell (i := 0) (v := .int .i64 P) rfl)
              have qX1_1 := cell_regrown (X1.out.cell (i := 1) (v := .int .i64 Q) rfl)
              have qC_0 := cell_regrown (C.out.cell (i := 0) (v := .int .i64 1) rfl)
              have qC_1 := cell_regrown (C.out.cell (i := 1) (v := .int .i64 ux0) rfl)
              have qC_2 := cell_regrown (C.out.cell (i := 2) (v := .int .i64 uy0) rfl)
              have qC_3 := cell_regrown (C.out.cell (i := 3) (v := .int .i64 dx0) rfl)
              have qC_4 := cell_regrown (C.out.cell (i := 4) (v := .int .i64 dy0) rfl)
              have qC_5 := cell_regrown (C.out.cell (i := 5) (v := .int .i64 n1) rfl)
              have qC_6 := cell_regrown (C.out.cell (i := 6) (v := .int .i64 n2) rfl)
              have qC_7 := cell_regrown (C.out.cell (i := 7) (v := .int .i64 n3) rfl)
              have qC_8 := cell_regrown (C.out.cell (i := 8) (v := .int .i64 n4) rfl)
              have qC_9 := cell_regrown (C.out.cell (i := 9) (v := .int .i64 n5) rfl)
              have qC_10 := cell_regrown (C.out.cell (i := 10) (v := .int .i64 qx) rfl)
              have qC_11 := cell_regrown (C.out.cell (i := 11) (v := .int .i64 qy) rfl)
              have qC_12 := cell_regrown (C.out.cell (i := 12) (v := .int .i64 wd) rfl)
              have qC_13 := cell_regrown (C.out.cell (i := 13) (v := .int .i64 ov) rfl)
              refine wp_region_quiet_below (by kernel_rfl) (by kernel_rfl) ?_
              repeat (go_big_quiet_step (fail))
              refine wpQuiet_nil ?_
              intro x1 hw
              have hb := below_of_regrown hw
              clear hw qX1_0 qX1_1 qC_0 qC_1 qC_2 qC_3 qC_4 qC_5 qC_6 qC_7 qC_8 qC_9 qC_10 qC_11 qC_12 qC_13
              replace G := Lib.hid (G.out.keep hb)
              replace X1 := Lib.hid (X1.out.keep hb)
              replace C := Lib.hid (C.out.keep hb)
              replace HB := Lib.hid (HB.out.trans (hb.mono HB.out.size))
              clear hb
              have qC_0 := C.out.cell (i := 0) (v := .int .i64 1) rfl
              have qC_1 := C.out.cell (i := 1) (v := .int .i64 ux0) rfl
              have qC_2 := C.out.cell (i := 2) (v := .int .i64 uy0) rfl
              have qC_3 := C.out.cell (i := 3) (v := .int .i64 dx0) rfl
              have qC_4 := C.out.cell (i := 4) (v := .int .i64 dy0) rfl
              have qC_5 := C.out.cell (i := 5) (v := .int .i64 n1) rfl
              have qC_6 := C.out.cell (i := 6) (v := .int .i64 n2) rfl
              have qC_7 := C.out.cell (i := 7) (v := .int .i64 n3) rfl
              have qC_8 := C.out.cell (i := 8) (v := .int .i64 n4) rfl
              have qC_9 := C.out.cell (i := 9) (v := .int .i64 n5) rfl
              have qC_10 := C.out.cell (i := 10) (v := .int .i64 qx) rfl
              have qC_11 := C.out.cell (i := 11) (v := .int .i64 qy) rfl
              have qC_12 := C.out.cell (i := 12) (v := .int .i64 wd) rfl
              have qC_13 := C.out.cell (i := 13) (v := .int .i64 ov) rfl
              have rl_C := C.out.lt
              go_wp2_with fail
              clear qC_0 qC_1 qC_2 qC_3 qC_4 qC_5 qC_6 qC_7 qC_8 qC_9 qC_10 qC_11 qC_12 qC_13 rl_C
              refine Calls.mono (ellin_v _ _ _ _ _ _ _ _ HN.out _) ?_
              rintro e x2 ⟨rfl, hb⟩
              replace G := Lib.hid (G.out.keep hb)
              replace X1 := Lib.hid (X1.out.keep hb)
              replace C := Lib.hid (C.out.keep hb)
              replace HB := Lib.hid (HB.out.trans (hb.mono HB.out.size))
              clear hb
              go_wp2_with fail
              refine Calls.mono (rroot_v _ _ HD.out HSB.out _) ?_
              rintro e x3 ⟨rfl, hb⟩
              replace G := Lib.hid (G.out.keep hb)
              replace X1 := Lib.hid (X1.out.keep hb)
              replace C := Lib.hid (C.out.keep hb)
              replace HB := Lib.hid (HB.out.trans (hb.mono HB.out.size))
              clear hb
              have hs1 := HS1.out
              have hs2 := HS2.out
              have hlo := HLO.out
              have hhi := HHI.out
              clear hS hm1 hm2 hdx hdy wx wy bm11 bm12 bm21 bm22 bx1 bx2 by1 by2
              have qC_0 := C.out.cell (i := 0) (v := .int .i64 1) rfl
              have qC_1 := C.out.cell (i := 1) (v := .int .i64 ux0) rfl
              have qC_2 := C.out.cell (i := 2) (v := .int .i64 uy0) rfl
              have qC_3 := C.out.cell (i := 3) (v := .int .i64 dx0) rfl
              have qC_4 := C.out.cell (i := 4) (v := .int .i64 dy0) rfl
              have qC_5 := C.out.cell (i := 5) (v := .int .i64 n1) rfl
              have qC_6 := C.out.cell (i := 6) (v := .int .i64 n2) rfl
              have qC_7 := C.out.cell (i := 7) (v := .int .i64 n3) rfl
              have qC_8 := C.out.cell (i := 8) (v := .int .i64 n4) rfl
              have qC_9 := C.out.cell (i := 9) (v := .int .i64 n5) rfl
              have qC_10 := C.out.cell (i := 10) (v := .int .i64 qx) rfl
              have qC_11 := C.out.cell (i := 11) (v := .int .i64 qy) rfl
              have qC_12 := C.out.cell (i := 12) (v := .int .i64 wd) rfl
              have qC_13 := C.out.cell (i := 13) (v := .int .i64 ov) rfl
              have rl_C := C.out.lt
              go_wp2_with fail
              clear qC_0 qC_1 qC_2 qC_3 qC_4 qC_5 qC_6 qC_7 qC_8 qC_9 qC_10 qC_11 qC_12 qC_13 rl_C
              have nX1 := hg1
              refine Calls.mono (range_c g m v x y a b d n1 n2 n3 n4 n5 lo hi _ G.out) ?_
              rintro e x4 ⟨v1, ⟨z1, z2, z3, z4, z5⟩, kk, hs, rfl, ho, hb⟩
              have FF := Lib.hid (fh_range FF.out HN.out r1 r3 HD0.out HLO.out HHI.out hs)
              replace X1 := Lib.hid (ho.blk X1.out nX1)
              replace C := Lib.hid (ho.blk C.out nC)
              replace HB : Hid (Below w.heap.size w x4) := OnlyAt.below ho HB.out (Nat.le_refl _) lw
              replace G := Lib.hid hb
              clear hs ho hb
              cases v1 with
              | false =>
                go_wp2_with fail
                have qX1_0 := cell_regrown (X1.out.cell (i := 0) (v := .int .i64 P) rfl)
                have qX1_1 := cell_regrown (X1.out.cell (i := 1) (v := .int .i64 Q) rfl)
                refine wp_region_quiet_below (by kernel_rfl) (by kernel_rfl) ?_
                repeat (go_big_quiet_step (first
                  | (go_at_call 29; exact Calls.regrown_of (valid_c g m false z1 z2 z3 z4 z5 _ (Blk.keep G.out (below_regrown _ _ _))))))
                refine wpQuiet_nil ?_
                intro x5 hw
                have hb := below_of_regrown hw
                clear hw qX1_0 qX1_1
                replace G := Lib.hid (G.out.keep hb)
                replace X1 := Lib.hid (X1.out.keep hb)
                replace C := Lib.hid (C.out.keep hb)
                replace HB := Lib.hid (HB.out.trans (hb.mono HB.out.size))
                clear hb
                have hbw := HB.out
                have sw := hbw.size
                go_wp2_with fail
                go_roundw
                case rel => exact ⟨k + 1, false, z1, z2, z3, z4, z5, P, Q, by omega, by go_num, FF, by have := HPQ.out; show _ ∧ _; omega, G, X1, HB⟩
                case measure => simp [intOf]; omega
              | true =>
                have HIN := Lib.hid (FF.out rfl)
                go_wp2_with fail
                have qX1_0 := cell_regrown (X1.out.cell (i := 0) (v := .int .i64 P) rfl)
                have qX1_1 := cell_regrown (X1.out.cell (i := 1) (v := .int .i64 Q) rfl)
                refine wp_region_quiet_below (by kernel_rfl) (by kernel_rfl) ?_
                repeat (go_big_quiet_step (first
                  | (go_at_call 29; exact Calls.regrown_of (valid_c g m true z1 z2 z3 z4 z5 _ (Blk.keep G.out (below_regrown _ _ _))))
                  | (go_at_call 30; exact Calls.regrown_of (e_c g m true z1 z2 z3 z4 z5 _ (Blk.keep G.out (below_regrown _ _ _))))
                  | (go_at_call 16; exact Calls.regrown_of (ellin_v _ _ _ _ _ _ _ _ HIN.out _))))
                refine wpQuiet_nil ?_
                intro x5 hw
                have hb := below_of_regrown hw
                clear hw qX1_0 qX1_1
                replace G := Lib.hid (G.out.keep hb)
                replace X1 := Lib.hid (X1.out.keep hb)
                replace C := Lib.hid (C.out.keep hb)
                replace HB := Lib.hid (HB.out.trans (hb.mono HB.out.size))
                clear hb
                have hbw := HB.out
                have sw := hbw.size
                go_wp2_with fail
                go_roundw
                case rel => exact ⟨k + 1, true, z1, z2, z3, z4, z5, P, Q, by omega, by go_num, FF, by have := HPQ.out; show _ ∧ _; omega, G, X1, HB⟩
                case measure => simp [intOf]; omega
          · have b0 : (cn == 0) = false := by simp [d0]
            have b1 : (cn == 1) = false := by simp [d1]
            have lX1 := X1.out.lt
            have lX2 : w.heap.size < wr.heap.size := by omega
            have cX0 := X1.out.cell (i := 0) (v := .int .i64 P) rfl
            have cX1 := X1.out.cell (i := 1) (v := .int .i64 Q) rfl
            cases hn : El.has ⟨n1, n2, n3, n4, n5⟩ P Q with
            | false =>
              have HN := Lib.hid hn
              clear hn
              go_wp2_with fail
              rw [← hw0]
              have C : Hid (Blk w0 wr.heap.size #[.int .i64 cn, .int .i64 ux0, .int .i64 uy0, .int .i64 dx0, .int .i64 dy0, .int .i64 n1, .int .i64 n2, .int .i64 n3, .int .i64 n4, .int .i64 n5, .int .i64 qx, .int .i64 qy, .int .i64 wd, .int .i64 ov] 50) := by rw [hw0]; exact Blk.new _ _ _
              have hb : Below wr.heap.size wr w0 := by rw [hw0]; exact (Below.refl _ _).alloc (Nat.le_refl _) _
              replace G := Lib.hid (G.out.keep hb)
              replace X1 := Lib.hid (X1.out.keep hb)
              replace HB := Lib.hid (HB.out.trans (hb.mono HB.out.size))
              clear hb
              clear hw0 q0 q1 q2 q3 q4 q5 q6 q7 q8 q9 q10 q11 q12 q13
              have nC : ¬ (wr.heap.size = g) := by omega
              have gC : w.heap.size ≤ wr.heap.size := sr
              clear lX1 lX2 cX0 cX1
              refine Calls.mono (ellin_v _ _ _ _ _ _ _ _ HN.out _) ?_
              rintro e x1 ⟨rfl, hb⟩
              replace G := Lib.hid (G.out.keep hb)
              replace X1 := Lib.hid (X1.out.keep hb)
              replace C := Lib.hid (C.out.keep hb)
              replace HB := Lib.hid (HB.out.trans (hb.mono HB.out.size))
              clear hb
              cases v with
              | false =>
                go_wp2_with fail
                have qX1_0 := cell_regrown (X1.out.cell (i := 0) (v := .int .i64 P) rfl)
                have qX1_1 := cell_regrown (X1.out.cell (i := 1) (v := .int .i64 Q) rfl)
                refine wp_region_quiet_below (by kernel_rfl) (by kernel_rfl) ?_
                repeat (go_big_quiet_step (first
                  | (go_at_call 29; exact Calls.regrown_of (valid_c g m false x y a b d _ (Blk.keep G.out (below_regrown _ _ _))))))
                refine wpQuiet_nil ?_
                intro x2 hw
                have hb := below_of_regrown hw
                clear hw qX1_0 qX1_1
                replace G := Lib.hid (G.out.keep hb)
                replace X1 := Lib.hid (X1.out.keep hb)
                replace C := Lib.hid (C.out.keep hb)
                replace HB := Lib.hid (HB.out.trans (hb.mono HB.out.size))
                clear hb
                have hbw := HB.out
                have sw := hbw.size
                go_wp2_with fail
                go_roundw
                case rel => exact ⟨k + 1, false, x, y, a, b, d, P, Q, by omega, by go_num, FF, by have := HPQ.out; show _ ∧ _; omega, G, X1, HB⟩
                case measure => simp [intOf]; omega
              | true =>
                have HIN := Lib.hid (FF.out rfl)
                go_wp2_with fail
                have qX1_0 := cell_regrown (X1.out.cell (i := 0) (v := .int .i64 P) rfl)
                have qX1_1 := cell_regrown (X1.out.cell (i := 1) (v := .int .i64 Q) rfl)
                refine wp_region_quiet_below (by kernel_rfl) (by kernel_rfl) ?_
                repeat (go_big_quiet_step (first
                  | (go_at_call 29; exact Calls.regrown_of (valid_c g m true x y a b d _ (Blk.keep G.out (below_regrown _ _ _))))
                  | (go_at_call 30; exact Calls.regrown_of (e_c g m true x y a b d _ (Blk.keep G.out (below_regrown _ _ _))))
                  | (go_at_call 16; exact Calls.regrown_of (ellin_v _ _ _ _ _ _ _ _ HIN.out _))))
                refine wpQuiet_nil ?_
                intro x2 hw
                have hb := below_of_regrown hw
                clear hw qX1_0 qX1_1
                replace G := Lib.hid (G.out.keep hb)
                replace X1 := Lib.hid (X1.out.keep hb)
                replace C := Lib.hid (C.out.keep hb)
                replace HB := Lib.hid (HB.out.trans (hb.mono HB.out.size))
                clear hb
                have hbw := HB.out
                have sw := hbw.size
                go_wp2_with fail
                go_roundw
                case rel => exact ⟨k + 1, true, x, y, a, b, d, P, Q, by omega, by go_num, FF, by have := HPQ.out; show _ ∧ _; omega, G, X1, HB⟩
                case measure => simp [intOf]; omega
            | true =>
              have HN := Lib.hid hn
              clear hn
              go_wp2_with fail
              rw [← hw0]
              have C : Hid (Blk w0 wr.heap.size #[.int .i64 cn, .int .i64 ux0, .int .i64 uy0, .int .i64 dx0, .int .i64 dy0, .int .i64 n1, .int .i64 n2, .int .i64 n3, .int .i64 n4, .int .i64 n5, .int .i64 qx, .int .i64 qy, .int .i64 wd, .int .i64 ov] 50) := by rw [hw0]; exact Blk.new _ _ _
              have hb : Below wr.heap.size wr w0 := by rw [hw0]; exact (Below.refl _ _).alloc (Nat.le_refl _) _
              replace G := Lib.hid (G.out.keep hb)
              replace X1 := Lib.hid (X1.out.keep hb)
              replace HB := Lib.hid (HB.out.trans (hb.mono HB.out.size))
              clear hb
              clear hw0 q0 q1 q2 q3 q4 q5 q6 q7 q8 q9 q10 q11 q12 q13
              have nC : ¬ (wr.heap.size = g) := by omega
              have gC : w.heap.size ≤ wr.heap.size := sr
              clear lX1 lX2 cX0 cX1
              refine Calls.mono (ellin_v _ _ _ _ _ _ _ _ HN.out _) ?_
              rintro e x1 ⟨rfl, hb⟩
              replace G := Lib.hid (G.out.keep hb)
              replace X1 := Lib.hid (X1.out.keep hb)
              replace C := Lib.hid (C.out.keep hb)
              replace HB := Lib.hid (HB.out.trans (hb.mono HB.out.size))
              clear hb
              have qC_0 := C.out.cell (i := 0) (v := .int .i64 cn) rfl
              have qC_1 := C.out.cell (i := 1) (v := .int .i64 ux0) rfl
              have qC_2 := C.out.cell (i := 2) (v := .int .i64 uy0) rfl
              have qC_3 := C.out.cell (i := 3) (v := .int .i64 dx0) rfl
              have qC_4 := C.out.cell (i := 4) (v := .int .i64 dy0) rfl
              have qC_5 := C.out.cell (i := 5) (v := .int .i64 n1) rfl
              have qC_6 := C.out.cell (i := 6) (v := .int .i64 n2) rfl
              have qC_7 := C.out.cell (i := 7) (v := .int .i64 n3) rfl
              have qC_8 := C.out.cell (i := 8) (v := .int .i64 n4) rfl
              have qC_9 := C.out.cell (i := 9) (v := .int .i64 n5) rfl
              have qC_10 := C.out.cell (i := 10) (v := .int .i64 qx) rfl
              have qC_11 := C.out.cell (i := 11) (v := .int .i64 qy) rfl
              have qC_12 := C.out.cell (i := 12) (v := .int .i64 wd) rfl
              have qC_13 := C.out.cell (i := 13) (v := .int .i64 ov) rfl
              have rl_C := C.out.lt
              go_wp2_with fail
              clear qC_0 qC_1 qC_2 qC_3 qC_4 qC_5 qC_6 qC_7 qC_8 qC_9 qC_10 qC_11 qC_12 qC_13 rl_C
              have nX1 := hg1
              refine Calls.mono (meet_c g m v x y a b d n1 n2 n3 n4 n5 _ G.out) ?_
              rintro e x2 ⟨v1, ⟨z1, z2, z3, z4, z5⟩, kk, hs, rfl, ho, hb⟩
              have FF := Lib.hid (fh_meet FF.out HN.out hs)
              replace X1 := Lib.hid (ho.blk X1.out nX1)
              replace C := Lib.hid (ho.blk C.out nC)
              replace HB : Hid (Below w.heap.size w x2) := OnlyAt.below ho HB.out (Nat.le_refl _) lw
              replace G := Lib.hid hb
              clear hs ho hb
              cases v1 with
              | false =>
                go_wp2_with fail
                have qX1_0 := cell_regrown (X1.out.cell (i := 0) (v := .int .i64 P) rfl)
                have qX1_1 := cell_regrown (X1.out.cell (i := 1) (v := .int .i64 Q) rfl)
                refine wp_region_quiet_below (by kernel_rfl) (by kernel_rfl) ?_
                repeat (go_big_quiet_step (first
                  | (go_at_call 29; exact Calls.regrown_of (valid_c g m false z1 z2 z3 z4 z5 _ (Blk.keep G.out (below_regrown _ _ _))))))
                refine wpQuiet_nil ?_
                intro x3 hw
                have hb := below_of_regrown hw
                clear hw qX1_0 qX1_1
                replace G := Lib.hid (G.out.keep hb)
                replace X1 := Lib.hid (X1.out.keep hb)
                replace C := Lib.hid (C.out.keep hb)
                replace HB := Lib.hid (HB.out.trans (hb.mono HB.out.size))
                clear hb
                have hbw := HB.out
                have sw := hbw.size
                go_wp2_with fail
                go_roundw
                case rel => exact ⟨k + 1, false, z1, z2, z3, z4, z5, P, Q, by omega, by go_num, FF, by have := HPQ.out; show _ ∧ _; omega, G, X1, HB⟩
                case measure => simp [intOf]; omega
              | true =>
                have HIN := Lib.hid (FF.out rfl)
                go_wp2_with fail
                have qX1_0 := cell_regrown (X1.out.cell (i := 0) (v := .int .i64 P) rfl)
                have qX1_1 := cell_regrown (X1.out.cell (i := 1) (v := .int .i64 Q) rfl)
                refine wp_region_quiet_below (by kernel_rfl) (by kernel_rfl) ?_
                repeat (go_big_quiet_step (first
                  | (go_at_call 29; exact Calls.regrown_of (valid_c g m true z1 z2 z3 z4 z5 _ (Blk.keep G.out (below_regrown _ _ _))))
                  | (go_at_call 30; exact Calls.regrown_of (e_c g m true z1 z2 z3 z4 z5 _ (Blk.keep G.out (below_regrown _ _ _))))
                  | (go_at_call 16; exact Calls.regrown_of (ellin_v _ _ _ _ _ _ _ _ HIN.out _))))
                refine wpQuiet_nil ?_
                intro x3 hw
                have hb := below_of_regrown hw
                clear hw qX1_0 qX1_1
                replace G := Lib.hid (G.out.keep hb)
                replace X1 := Lib.hid (X1.out.keep hb)
                replace C := Lib.hid (C.out.keep hb)
                replace HB := Lib.hid (HB.out.trans (hb.mono HB.out.size))
                clear hb
                have hbw := HB.out
                have sw := hbw.size
                go_wp2_with fail
                go_roundw
                case rel => exact ⟨k + 1, true, z1, z2, z3, z4, z5, P, Q, by omega, by go_num, FF, by have := HPQ.out; show _ ∧ _; omega, G, X1, HB⟩
                case measure => simp [intOf]; omega
        · have k3 : (30 : Int) ≤ k := by omega
          have hbw := HB.out
          go_wp2_with fail
          refine (awake18_c _).mono ?_; rintro e w6 ⟨rfl, hb6⟩
          have z6 := hb6.size; (try simp at z6)
          go_wp2
          go_ret
          exact ⟨rfl, below_byR⟩
      · have k1 : ¬ (k : Int) < len := by omega
        have hbw := HB.out
        go_wp2_with fail
        refine (awake18_c _).mono ?_; rintro e w6 ⟨rfl, hb6⟩
        have z6 := hb6.size; (try simp at z6)
        go_wp2
        go_ret
        exact ⟨rfl, below_byR⟩
end Go.Proofs.YtilginoibhfeiaaGreat
