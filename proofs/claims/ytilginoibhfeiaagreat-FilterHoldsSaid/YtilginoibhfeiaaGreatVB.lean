/- golden.found where there is nothing more. golden.Cut; the walk of GoldenCuts. (Printed by tools/h6.py.) The plain law of strip.Update, and its walk. The walk of strip.Update. Ellipses' sums, fusions, cuts, strips in a form that can be computed: the root by bits. No program in sight. strip.Update in a form that can be computed; awake of the laws of strip in plain. No program in sight. -/
import Derived.Test.YtilginoibhfeiaaGreatHA
import Derived.Test.YtilginoibhfeiaaGreatVA
import Derived.WalkKit
namespace Go.Proofs.YtilginoibhfeiaaGreat
open Go.RowKit

theorem own_cap {w : World} {base n g cap : Nat} {e : TypeId} {size : Nat} {xs : List Value} (h : w.ownsRow base e size (.slice (some ⟨g, 0, none⟩) n cap) n xs) : n ≤ cap := by
  rcases h.2 with ⟨h, -⟩ | ⟨g', cap', cur, h, -, -, h3, -⟩
  · cases h
  · injection h with _ _ h; subst h; exact h3
/-- append of nothing, where there is room. -/
theorem wpList_append_none {P : Program} (w : World) {ops : Array Oper} {rest : List Oper} {o : Oper} {a : Act} {Q : Exit → Act → World → Prop} (hgd : o.guard = none) (s x : Operand) (t : TypeId)
    (ho : o.op = .call { callee := .builtin .append, args := #[s, x], argTypes := #[t, t] }) (e : TypeId) (i : TypeInfo) (ht : P.underlying t = some (.slice e)) (hi : P.info? e = some i)
    (g n cap : Nat) (hn : n ≤ cap) (hs : a.eval s = .slice (some ⟨g, 0, none⟩) n cap) (hx : a.eval x = .slice none 0 0)
    (h : wpList P ops Q rest (a.put o.dst (.slice (some ⟨g, 0, none⟩) n cap)) w) : wpList P ops Q (o :: rest) a w :=
  wpList_plain hgd fun _ hK => by
    have hr : (Builtin.append_ #[t, t] o.type #[.slice (some ⟨g, 0, none⟩) n cap, .slice none 0 0]).run P w = .ok (.slice (some ⟨g, 0, none⟩) n cap) w := by
      simp [Builtin.append_, run_underlying ht, sizeOf, typeInfo, hi, Builtin.lenOf, Builtin.firstCells, hn, storeCells]
    unfold Oper.wp execOp
    simp only [ho, resolve, invoke, builtin, Sem.run_bind, Sem.run_pure, Result.andThen_ok, List.map_toArray, List.map_cons, List.map_nil, hs, hx, hr]
    exact hK _ _ h
set_option maxRecDepth 100000 in
set_option maxHeartbeats 8000000 in
theorem found0_c (x y a b d : Int) (fn : FuncId) (caps : Array Value) (O : Int → El × Int) (w : World) (hfn : ∀ args w, Sem.run Tryz.prog (callFunc fn args) w = .ok (.enter fn args) w)
    (hO : ∀ (k : Int) (w' : World), 0 ≤ k → k ≤ 34 → Below w.heap.size w w' → Calls Tryz.prog fn (#[.int .i64 k] ++ caps) w' fun e w'' => e = .returned (.tuple #[elV (O k).1, .int .i64 (O k).2]) ∧ Below w'.heap.size w' w'') :
    Calls Tryz.prog 122 #[elC x y a b d, .func (.func fn) #[] caps, .slice none 0 0] w fun e w' => e = .returned (.tuple #[elV (foundE ⟨x, y, a, b, d⟩ O []).1, .int .i64 (foundE ⟨x, y, a, b, d⟩ O []).2]) ∧ Below w.heap.size w w' := by
  have HO := Lib.hid hO
  clear hO
  obtain ⟨i0, hi, hz0, hz1, hz2⟩ := info_parts infoEl
  go_enter Tryz.func122, Tryz.ntmps122
  go_wp2_with fail
  obtain ⟨W1, hW1⟩ : ∃ W1, W1 = (((w.alloc (Obj.cells #[.int .i64 x, .int .i64 y, .int .i64 a, .int .i64 b, .int .i64 d] 27)).alloc (Obj.cells #[.func (.func fn) #[] caps] 141)).alloc (Obj.cells #[.int .i64 0, .int .i64 0, .int .i64 0, .int .i64 0, .int .i64 0] 27)).alloc (Obj.cells #[.bool false] 4) := ⟨_, rfl⟩
  rw [← hW1]
  have hI : FAsk w x y a b d fn caps O [] W1 := by
    rw [hW1]
    refine ⟨(show Below _ _ _ from below_byR), ?_, ?_, ?_, ?_⟩
    · exact (((Blk.new _ _ _).alloc _).alloc _).alloc _
    · exact ((Blk.new' _ _ _ (by simp)).alloc _).alloc _
    · exact (Blk.new' _ _ _ (by simp)).alloc _
    · exact Blk.new' _ _ _ (by simp)
  have hsz : w.heap.size ≤ W1.heap.size := hI.1.size
  clear hW1
  have M := Lib.hid (best_c 180 #[.pointer (some ⟨w.heap.size + 1, 0, none⟩), .pointer (some ⟨w.heap.size + 1 + 1 + 1, 0, none⟩)] (ovV O) (FAsk w x y a b d fn caps O) W1 (by intro args w; rfl)
    (fun l w1 w2 hs h => ⟨Below.side (Nat.le_refl _) h.1 hs hsz, h.2.1.side hs (by decide) (by decide), h.2.2.1.side hs (by decide) (by decide), h.2.2.2.1.side hs (by decide) (by decide), h.2.2.2.2.side hs (by decide) (by decide)⟩)
    (fun l k w1 _ h0 h1 h => fask_cl w x y a b d fn caps O hfn HO.out l k w1 h0 h1 h) hI)
  obtain ⟨hgi, -⟩ := gfin_inv (ovV O)
  have hfb := hgi.best
  have hfr := hgi.rng
  have EV : Hid (foundE ⟨x, y, a, b, d⟩ O [] = if emptyB O (gfin (ovV O)).asked then (El.zero, 3) else ((cands ⟨x, y, a, b, d⟩ O []).foldl pick ⟨x, y, a, b, d⟩, 0)) := rfl
  have EC : Hid (cands ⟨x, y, a, b, d⟩ O [] = (⟨x, y, a, b, d⟩ :: if (gfin (ovV O)).ok then [(O (gfin (ovV O)).w).1] else []) ++ []) := rfl
  generalize gfin (ovV O) = s at M hfb hfr EV EC
  obtain ⟨asked, gw, gn, gok⟩ := s
  simp only at M hfb hfr EV EC
  clear hgi hI hsz
  obtain ⟨em, hem⟩ : ∃ em, emptyB O asked = em := ⟨_, rfl⟩
  rw [hem] at EV
  refine M.out.mono ?_; rintro e w1 ⟨rfl, ⟨hb, b3, b4, b6, b8⟩, hsz⟩
  rw [hem] at b8
  clear M hem
  obtain ⟨y3, c3, f3, -⟩ := hb_facts b3
  obtain ⟨y4, c4, f4, -⟩ := hb_facts b4
  obtain ⟨y6, c6, f6, -⟩ := hb_facts b6
  obtain ⟨y8, c8, f8, -⟩ := hb_facts b8
  cases em with
  | true =>
    go_wp2_with fail
    exact bodyPost_row_t 5 #[.int .i64 0, .int .i64 0, .int .i64 0, .int .i64 0, .int .i64 0] (.int .i64 3) rfl rfl rfl rfl Tryz.underlying27 rfl (by kernel_rfl) (row_of_cells 4 _ rfl (by intro i hi; rcases i with _ | _ | _ | _ | _ | i; (go_simp); (go_simp); (go_simp); (go_simp); (go_simp); exact absurd hi (by omega))) ⟨by rw [EV.out]; rfl, below_byR⟩
  | false =>
    have hbe : gok = true → 0 ≤ gw ∧ gw ≤ 34 := fun h => hfr _ (hfb h).1
    -- TAIL
    cases gok with
    | false =>
      go_wp2_with (at_builtin; refine wpList_append_none _ rfl _ _ 202 rfl 27 i0 Tryz.underlying202 hi w1.heap.size _ _ (Nat.le_refl _) rfl rfl ?_)
      obtain ⟨w5, hw5⟩ : ∃ w5, w5 = (w1.alloc (Obj.cells #[.int .i64 x, .int .i64 y, .int .i64 a, .int .i64 b, .int .i64 d] 27)).alloc (Obj.cells #[.int .i64 x, .int .i64 y, .int .i64 a, .int .i64 b, .int .i64 d] 27) := ⟨_, rfl⟩
      rw [← hw5]
      have hown : w5.ownsRow w.heap.size 27 5 (.slice (some ⟨w1.heap.size, 0, none⟩) 1 1) 1 (elc ⟨x, y, a, b, d⟩) := by rw [hw5]; exact own_of ((Blk.new w1 _ _).alloc _) (by have := hb.size; omega)
      have BO : Blk w5 (w1.heap.size + 1) #[.int .i64 x, .int .i64 y, .int .i64 a, .int .i64 b, .int .i64 d] 27 := by rw [hw5]; exact Blk.new' _ _ _ (by simp)
      have B6 : Blk w5 (w.heap.size + 1 + 1) #[.int .i64 0, .int .i64 0, .int .i64 0, .int .i64 0, .int .i64 0] 27 := by rw [hw5]; exact (b6.alloc _).alloc _
      have hb5 : Below w.heap.size w w5 := by rw [hw5]; exact (hb.alloc hb.size _).alloc (by have := hb.size; simp; omega) _
      have zz := y6
      clear hw5 b3 b4 b6 b8 y3 c3 f3 y4 c4 f4 y6 c6 f6 y8 c8 f8
      generalize hg3 : w1.heap.size = g3 at hown BO zz ⊢
      clear hg3
      have zq : w.heap.size + 1 + 1 < g3 + 1 := by omega
      clear zz
      have hne0 : ¬ g3 = g3 + 1 := by omega
      generalize g3 + 1 = go at BO zq hne0 ⊢
      obtain ⟨cur, hcur, hcs, htake⟩ := own_cur hown
      have hX : ∀ k e, ([⟨x, y, a, b, d⟩] : List El)[k]? = some e → ∀ j, j < 5 → cur[k * 5 + j]? = (elc e)[j]? := cells_at [⟨x, y, a, b, d⟩] cur htake
      have hne := hne0
      have HG := Lib.hid hcur
      have HBO := Lib.hid BO
      have HB6 := Lib.hid B6
      have HB := Lib.hid hb5
      have zs := hb5.size
      have HX := Lib.hid hX
      clear hown htake hcur BO B6 hb5 hcs hX hfb hfr hbe
      go_wp2_with fail
      go_loopw [44] (fun ti wr => ∃ (k : Nat) (o : El), k ≤ 1 ∧ ti = .int .i64 k ∧ o = (([⟨x, y, a, b, d⟩] : List El).take k).foldl pick ⟨x, y, a, b, d⟩ ∧ Hid (Blk wr (go) #[.int .i64 o.x, .int .i64 o.y, .int .i64 o.a, .int .i64 o.b, .int .i64 o.d] 27) ∧ Hid (Blk wr g3 cur 27) ∧ Hid (Blk wr (w.heap.size + 1 + 1) #[.int .i64 0, .int .i64 0, .int .i64 0, .int .i64 0, .int .i64 0] 27) ∧ Hid (Below w.heap.size w wr)) (fun ti _ => 1 - (intOf ti).toNat)
      case atStart => exact ⟨0, ⟨x, y, a, b, d⟩, by omega, rfl, rfl, HBO.out, HG.out, HB6.out, HB.out⟩
      case round =>
        obtain ⟨k, ⟨qx, qy, qa, qb, qd⟩, hk, rfl, hq, RO, RG, R6, RB⟩ := hrel
        simp only at RO
        have HQ0 := Lib.hid hq
        clear HBO HG HB6 HB
        have hbr := RB.out
        have zr := hbr.size
        by_cases hlt : k < 1
        · obtain ⟨⟨ex, ey, ea, eb, ed⟩, he⟩ : ∃ e, ([⟨x, y, a, b, d⟩] : List El)[k]? = some e := ⟨_, List.getElem?_eq_getElem (by simpa using hlt)⟩
          have m0 : wr.cell? ⟨g3, k * 5, none⟩ = some (.int .i64 ex) := (RG.out.at (k * 5 + 0)).trans (HX.out k _ he 0 (by decide))
          have m1 : wr.cell? ⟨g3, k * 5 + 1, none⟩ = some (.int .i64 ey) := (RG.out.at (k * 5 + 1)).trans (HX.out k _ he 1 (by decide))
          have m2 : wr.cell? ⟨g3, k * 5 + 2, none⟩ = some (.int .i64 ea) := (RG.out.at (k * 5 + 2)).trans (HX.out k _ he 2 (by decide))
          have m3 : wr.cell? ⟨g3, k * 5 + 3, none⟩ = some (.int .i64 eb) := (RG.out.at (k * 5 + 3)).trans (HX.out k _ he 3 (by decide))
          have m4 : wr.cell? ⟨g3, k * 5 + 4, none⟩ = some (.int .i64 ed) := (RG.out.at (k * 5 + 4)).trans (HX.out k _ he 4 (by decide))
          have hpk := pick_next ([⟨x, y, a, b, d⟩] : List El) k ⟨x, y, a, b, d⟩ _ he
          rw [← hq] at hpk
          have k1 : (k : Int) < 1 := by omega
          have k2 : (0 : Int) ≤ k := by omega
          obtain ⟨t1, ht1⟩ : ∃ t, El.tr ⟨ex, ey, ea, eb, ed⟩ = t := ⟨_, rfl⟩
          obtain ⟨t2, ht2⟩ : ∃ t, El.tr ⟨qx, qy, qa, qb, qd⟩ = t := ⟨_, rfl⟩
          have T1 := Lib.hid ht1
          have T2 := Lib.hid ht2
          rw [show pick ⟨qx, qy, qa, qb, qd⟩ ⟨ex, ey, ea, eb, ed⟩ = if El.tr ⟨ex, ey, ea, eb, ed⟩ < El.tr ⟨qx, qy, qa, qb, qd⟩ then ⟨ex, ey, ea, eb, ed⟩ else ⟨qx, qy, qa, qb, qd⟩ from rfl, ht1, ht2] at hpk
          have HPK := Lib.hid hpk
          clear hpk he ht1 ht2 hq
          go_wp2_with fail
          obtain ⟨w6, hw6⟩ : ∃ w6, w6 = wr.alloc (Obj.cells #[.int .i64 ex, .int .i64 ey, .int .i64 ea, .int .i64 eb, .int .i64 ed] 27) := ⟨_, rfl⟩
          rw [← hw6]
          have SX : Hid (Blk w6 wr.heap.size #[.int .i64 ex, .int .i64 ey, .int .i64 ea, .int .i64 eb, .int .i64 ed] 27) := by rw [hw6]; exact Blk.new _ _ _
          have SO : Hid (Blk w6 (go) #[.int .i64 qx, .int .i64 qy, .int .i64 qa, .int .i64 qb, .int .i64 qd] 27) := by rw [hw6]; exact RO.out.alloc _
          have SG : Hid (Blk w6 g3 cur 27) := by rw [hw6]; exact RG.out.alloc _
          have S6 : Hid (Blk w6 (w.heap.size + 1 + 1) #[.int .i64 0, .int .i64 0, .int .i64 0, .int .i64 0, .int .i64 0] 27) := by rw [hw6]; exact R6.out.alloc _
          have SB : Hid (Below w.heap.size w w6) := by rw [hw6]; exact hbr.alloc zr _
          have zgo := RO.out.lt
          have zg6 := R6.out.lt
          clear hw6 m0 m1 m2 m3 m4 RO RG R6 RB hbr
          have c0 := cell_regrown (SX.out.cell (i := 0) rfl)
          have d0 := cell_regrown (SO.out.cell (i := 0) rfl)
          have c1 := cell_regrown (SX.out.cell (i := 1) rfl)
          have d1 := cell_regrown (SO.out.cell (i := 1) rfl)
          have c2 := cell_regrown (SX.out.cell (i := 2) rfl)
          have d2 := cell_regrown (SO.out.cell (i := 2) rfl)
          have c3 := cell_regrown (SX.out.cell (i := 3) rfl)
          have d3 := cell_regrown (SO.out.cell (i := 3) rfl)
          have c4 := cell_regrown (SX.out.cell (i := 4) rfl)
          have d4 := cell_regrown (SO.out.cell (i := 4) rfl)
          refine wp_region_quiet_below (by kernel_rfl) (by kernel_rfl) ?_
          repeat (go_big_quiet_step (exact Calls.regrown_of (trace_v _ _ _ _ _ _ (by first | with_reducible exact T1.out | with_reducible exact T2.out) _)))
          refine wpQuiet_nil ?_
          intro w7 hwq
          have hb7 := below_of_regrown hwq
          clear hwq c0 c1 c2 c3 c4 d0 d1 d2 d3 d4
          have UX := SX.out.keep hb7
          have UO := SO.out.keep hb7
          have UG := SG.out.keep hb7
          have U6 := S6.out.keep hb7
          have UB := SB.out.trans (hb7.mono SB.out.size)
          obtain ⟨vy1, vc1, vf1, -⟩ := hb_facts UX
          obtain ⟨vy2, vc2, vf2, -⟩ := hb_facts UO
          clear SX SO SG S6 SB hb7
          by_cases ht : t1 < t2
          · go_wp2_with fail
            go_roundw
            case rel =>
              refine ⟨k + 1, ⟨ex, ey, ea, eb, ed⟩, by omega, by go_num, by rw [HPK.out, if_pos ht], ?_, ?_, ?_, ?_⟩
              · exact ((((UO.setCell_same 0 _).setCell_same 1 _).setCell_same 2 _).setCell_same 3 _).setCell_same 4 _
              · exact (((((UG.setCell_other (a := ⟨go, 0, none⟩) (hne) _).setCell_other (a := ⟨go, 1, none⟩) (hne) _).setCell_other (a := ⟨go, 2, none⟩) (hne) _).setCell_other (a := ⟨go, 3, none⟩) (hne) _).setCell_other (a := ⟨go, 4, none⟩) (hne) _)
              · exact (((((U6.setCell_other (a := ⟨go, 0, none⟩) (by simp only; omega) _).setCell_other (a := ⟨go, 1, none⟩) (by simp only; omega) _).setCell_other (a := ⟨go, 2, none⟩) (by simp only; omega) _).setCell_other (a := ⟨go, 3, none⟩) (by simp only; omega) _).setCell_other (a := ⟨go, 4, none⟩) (by simp only; omega) _)
              · exact (show Below _ _ _ from below_byR)
            case measure => simp [intOf]; omega
          · go_wp2_with fail
            go_roundw
            case rel => exact ⟨k + 1, ⟨qx, qy, qa, qb, qd⟩, by omega, by go_num, by rw [HPK.out, if_neg ht], UO, UG, U6, UB⟩
            case measure => simp [intOf]; omega
        · obtain rfl : k = 1 := by omega
          have hF : Hid (foundE ⟨x, y, a, b, d⟩ O [] = (⟨qx, qy, qa, qb, qd⟩, 0)) := by show _ = _; rw [EV.out, EC.out, HQ0.out]; rfl
          obtain ⟨vy1, vc1, vf1, -⟩ := hb_facts RO.out
          obtain ⟨vy2, vc2, vf2, -⟩ := hb_facts R6.out
          clear EV EC hq
          go_wp2_with fail
          exact bodyPost_row_t 5 #[.int .i64 qx, .int .i64 qy, .int .i64 qa, .int .i64 qb, .int .i64 qd] (.int .i64 0) rfl rfl rfl rfl Tryz.underlying27 rfl (by kernel_rfl) (row_of_cells 4 _ rfl (by intro i hi; rcases i with _ | _ | _ | _ | _ | i; (go_simp); (go_simp); (go_simp); (go_simp); (go_simp); exact absurd hi (by omega))) ⟨by rw [hF.out], below_byR⟩
    | true =>
      obtain ⟨h0, h1⟩ := hbe rfl
      obtain ⟨⟨ox, oy, oa, ob, od⟩, r, ho⟩ : ∃ o r, O gw = (o, r) := ⟨_, _, rfl⟩
      have HQ := HO.out gw (w1.alloc (Obj.cells #[.int .i64 x, .int .i64 y, .int .i64 a, .int .i64 b, .int .i64 d] 27)) h0 h1 (hb.alloc hb.size _)
      rw [ho] at HQ EC
      -- S11
      have HQ2 := Lib.hid HQ
      clear HQ ho
      go_wp2_with fail
      -- S13
      refine HQ2.out.mono ?_; rintro e w2 ⟨rfl, hb2⟩
      -- S14
      have zw2 := hb2.size
      simp at zw2
      have BL2 := (Blk.new w1 #[.int .i64 x, .int .i64 y, .int .i64 a, .int .i64 b, .int .i64 d] 27).keep hb2
      have b32 := (b3.alloc (Obj.cells #[.int .i64 x, .int .i64 y, .int .i64 a, .int .i64 b, .int .i64 d] 27)).keep hb2
      have b62 := (b6.alloc (Obj.cells #[.int .i64 x, .int .i64 y, .int .i64 a, .int .i64 b, .int .i64 d] 27)).keep hb2
      have hbw2 := (hb.alloc hb.size (Obj.cells #[.int .i64 x, .int .i64 y, .int .i64 a, .int .i64 b, .int .i64 d] 27)).trans (hb2.mono (by have := hb.size; simp; omega))
      have zb := hb.size
      have zz6 := y6
      clear hb2 b3 b4 b6 b8 y3 c3 f3 y4 c4 f4 y6 c6 f6 y8 c8 f8 hb
      obtain ⟨y3, c3, f3, -⟩ := hb_facts b32
      -- S15
      go_wp2_with (at_builtin; refine wpList_append_own _ rfl _ _ 202 rfl w.heap.size 27 i0 (.agg #[.int .i64 0, .int .i64 0, .int .i64 0, .int .i64 0, .int .i64 0]) 5 40 Tryz.underlying202 hi hz0 hz1 hz2 rfl (by decide) _ 1 _ rfl (own_of ((BL2.alloc _).alloc _) (by omega)) ⟨w2.heap.size + 1, 0, none⟩ 1 1 (elc ⟨ox, oy, oa, ob, od⟩) rfl rfl (elc_news (Blk.new' _ _ _ (by simp))) (elc_one _) (by unfold maxLen; omega) (by omega) (by simp; omega) ?_)
      -- S12
      intro v4 w3 hown1 hgrow1 _
      obtain ⟨g4, cap4, rfl⟩ := own_form hown1 (by omega)
      have b33 := ((b32.alloc _).alloc _).grown hgrow1 (by simp [Value.ownBlock]; omega)
      have b63 := ((b62.alloc _).alloc _).grown hgrow1 (by simp [Value.ownBlock]; omega)
      have hb3 := Below.grown (Nat.le_refl _) ((hbw2.alloc hbw2.size _).alloc (by have := hbw2.size; simp; omega) _) hgrow1 (fun g hg => by simp [Value.ownBlock] at hg; omega)
      have zg4 := (hown1.lt g4 (by simp [Value.ownBlock])).2
      have zl4 := (hown1.lt g4 (by simp [Value.ownBlock])).1
      have hcap4 := own_cap hown1
      clear hgrow1 b32 b62 hbw2 y3 c3 f3
      obtain ⟨cur4, hcur4, hcs4, -⟩ := own_cur hown1
      have n36 := blk_ne hcur4 b63 (by intro h; rw [h] at hcs4; simp at hcs4)
      clear hcur4 hcs4
      obtain ⟨y3, c3, f3, -⟩ := hb_facts b33
      go_wp2_with (at_builtin; refine wpList_append_none _ rfl _ _ 202 rfl 27 i0 Tryz.underlying202 hi g4 _ _ (hcap4) rfl rfl ?_)
      -- S16
      obtain ⟨w5, hw5⟩ : ∃ w5, w5 = w3.alloc (Obj.cells #[.int .i64 x, .int .i64 y, .int .i64 a, .int .i64 b, .int .i64 d] 27) := ⟨_, rfl⟩
      rw [← hw5]
      have hown : w5.ownsRow w.heap.size 27 5 (.slice (some ⟨g4, 0, none⟩) 2 cap4) 2 (elc ⟨x, y, a, b, d⟩ ++ elc ⟨ox, oy, oa, ob, od⟩) := by rw [hw5]; exact hown1.alloc _
      have BO : Blk w5 w3.heap.size #[.int .i64 x, .int .i64 y, .int .i64 a, .int .i64 b, .int .i64 d] 27 := by rw [hw5]; exact Blk.new _ _ _
      have B6 : Blk w5 (w.heap.size + 1 + 1) #[.int .i64 0, .int .i64 0, .int .i64 0, .int .i64 0, .int .i64 0] 27 := by rw [hw5]; exact b63.alloc _
      have hb5 : Below w.heap.size w w5 := by rw [hw5]; exact hb3.alloc hb3.size _
      have zr3 := hb3.size
      have zz := b63.lt
      clear hw5 b33 b63 y3 c3 f3 hb3 hown1 n36 zg4 zl4 BL2 zw2 zz6 zb HQ2 zr3
      -- S17
      clear hcap4
      generalize g4 = g3 at hown ⊢
      have zq : w.heap.size + 1 + 1 < w3.heap.size := by omega
      clear zz
      generalize hgo : w3.heap.size = go at BO zq ⊢
      clear hgo
      obtain ⟨cur, hcur, hcs, htake⟩ := own_cur hown
      have hX : ∀ k e, ([⟨x, y, a, b, d⟩, ⟨ox, oy, oa, ob, od⟩] : List El)[k]? = some e → ∀ j, j < 5 → cur[k * 5 + j]? = (elc e)[j]? := cells_at [⟨x, y, a, b, d⟩, ⟨ox, oy, oa, ob, od⟩] cur htake
      have hne := blk_ne hcur BO (by intro h; rw [h] at hcs; simp at hcs)
      have HG := Lib.hid hcur
      have HBO := Lib.hid BO
      have HB6 := Lib.hid B6
      have HB := Lib.hid hb5
      have zs := hb5.size
      have HX := Lib.hid hX
      clear hown htake hcur BO B6 hb5 hcs hX hfb hfr hbe
      go_wp2_with fail
      go_loopw [44] (fun ti wr => ∃ (k : Nat) (o : El), k ≤ 2 ∧ ti = .int .i64 k ∧ o = (([⟨x, y, a, b, d⟩, ⟨ox, oy, oa, ob, od⟩] : List El).take k).foldl pick ⟨x, y, a, b, d⟩ ∧ Hid (Blk wr (go) #[.int .i64 o.x, .int .i64 o.y, .int .i64 o.a, .int .i64 o.b, .int .i64 o.d] 27) ∧ Hid (Blk wr g3 cur 27) ∧ Hid (Blk wr (w.heap.size + 1 + 1) #[.int .i64 0, .int .i64 0, .int .i64 0, .int .i64 0, .int .i64 0] 27) ∧ Hid (Below w.heap.size w wr)) (fun ti _ => 2 - (intOf ti).toNat)
      case atStart => exact ⟨0, ⟨x, y, a, b, d⟩, by omega, rfl, rfl, HBO.out, HG.out, HB6.out, HB.out⟩
      case round =>
        obtain ⟨k, ⟨qx, qy, qa, qb, qd⟩, hk, rfl, hq, RO, RG, R6, RB⟩ := hrel
        simp only at RO
        have HQ0 := Lib.hid hq
        clear HBO HG HB6 HB
        have hbr := RB.out
        have zr := hbr.size
        by_cases hlt : k < 2
        · obtain ⟨⟨ex, ey, ea, eb, ed⟩, he⟩ : ∃ e, ([⟨x, y, a, b, d⟩, ⟨ox, oy, oa, ob, od⟩] : List El)[k]? = some e := ⟨_, List.getElem?_eq_getElem (by simpa using hlt)⟩
          have m0 : wr.cell? ⟨g3, k * 5, none⟩ = some (.int .i64 ex) := (RG.out.at (k * 5 + 0)).trans (HX.out k _ he 0 (by decide))
          have m1 : wr.cell? ⟨g3, k * 5 + 1, none⟩ = some (.int .i64 ey) := (RG.out.at (k * 5 + 1)).trans (HX.out k _ he 1 (by decide))
          have m2 : wr.cell? ⟨g3, k * 5 + 2, none⟩ = some (.int .i64 ea) := (RG.out.at (k * 5 + 2)).trans (HX.out k _ he 2 (by decide))
          have m3 : wr.cell? ⟨g3, k * 5 + 3, none⟩ = some (.int .i64 eb) := (RG.out.at (k * 5 + 3)).trans (HX.out k _ he 3 (by decide))
          have m4 : wr.cell? ⟨g3, k * 5 + 4, none⟩ = some (.int .i64 ed) := (RG.out.at (k * 5 + 4)).trans (HX.out k _ he 4 (by decide))
          have hpk := pick_next ([⟨x, y, a, b, d⟩, ⟨ox, oy, oa, ob, od⟩] : List El) k ⟨x, y, a, b, d⟩ _ he
          rw [← hq] at hpk
          have k1 : (k : Int) < 2 := by omega
          have k2 : (0 : Int) ≤ k := by omega
          obtain ⟨t1, ht1⟩ : ∃ t, El.tr ⟨ex, ey, ea, eb, ed⟩ = t := ⟨_, rfl⟩
          obtain ⟨t2, ht2⟩ : ∃ t, El.tr ⟨qx, qy, qa, qb, qd⟩ = t := ⟨_, rfl⟩
          have T1 := Lib.hid ht1
          have T2 := Lib.hid ht2
          rw [show pick ⟨qx, qy, qa, qb, qd⟩ ⟨ex, ey, ea, eb, ed⟩ = if El.tr ⟨ex, ey, ea, eb, ed⟩ < El.tr ⟨qx, qy, qa, qb, qd⟩ then ⟨ex, ey, ea, eb, ed⟩ else ⟨qx, qy, qa, qb, qd⟩ from rfl, ht1, ht2] at hpk
          have HPK := Lib.hid hpk
          clear hpk he ht1 ht2 hq
          go_wp2_with fail
          obtain ⟨w6, hw6⟩ : ∃ w6, w6 = wr.alloc (Obj.cells #[.int .i64 ex, .int .i64 ey, .int .i64 ea, .int .i64 eb, .int .i64 ed] 27) := ⟨_, rfl⟩
          rw [← hw6]
          have SX : Hid (Blk w6 wr.heap.size #[.int .i64 ex, .int .i64 ey, .int .i64 ea, .int .i64 eb, .int .i64 ed] 27) := by rw [hw6]; exact Blk.new _ _ _
          have SO : Hid (Blk w6 (go) #[.int .i64 qx, .int .i64 qy, .int .i64 qa, .int .i64 qb, .int .i64 qd] 27) := by rw [hw6]; exact RO.out.alloc _
          have SG : Hid (Blk w6 g3 cur 27) := by rw [hw6]; exact RG.out.alloc _
          have S6 : Hid (Blk w6 (w.heap.size + 1 + 1) #[.int .i64 0, .int .i64 0, .int .i64 0, .int .i64 0, .int .i64 0] 27) := by rw [hw6]; exact R6.out.alloc _
          have SB : Hid (Below w.heap.size w w6) := by rw [hw6]; exact hbr.alloc zr _
          have zgo := RO.out.lt
          have zg6 := R6.out.lt
          clear hw6 m0 m1 m2 m3 m4 RO RG R6 RB hbr
          have c0 := cell_regrown (SX.out.cell (i := 0) rfl)
          have d0 := cell_regrown (SO.out.cell (i := 0) rfl)
          have c1 := cell_regrown (SX.out.cell (i := 1) rfl)
          have d1 := cell_regrown (SO.out.cell (i := 1) rfl)
          have c2 := cell_regrown (SX.out.cell (i := 2) rfl)
          have d2 := cell_regrown (SO.out.cell (i := 2) rfl)
          have c3 := cell_regrown (SX.out.cell (i := 3) rfl)
          have d3 := cell_regrown (SO.out.cell (i := 3) rfl)
          have c4 := cell_regrown (SX.out.cell (i := 4) rfl)
          have d4 := cell_regrown (SO.out.cell (i := 4) rfl)
          refine wp_region_quiet_below (by kernel_rfl) (by kernel_rfl) ?_
          repeat (go_big_quiet_step (exact Calls.regrown_of (trace_v _ _ _ _ _ _ (by first | with_reducible exact T1.out | with_reducible exact T2.out) _)))
          refine wpQuiet_nil ?_
          intro w7 hwq
          have hb7 := below_of_regrown hwq
          clear hwq c0 c1 c2 c3 c4 d0 d1 d2 d3 d4
          have UX := SX.out.keep hb7
          have UO := SO.out.keep hb7
          have UG := SG.out.keep hb7
          have U6 := S6.out.keep hb7
          have UB := SB.out.trans (hb7.mono SB.out.size)
          obtain ⟨vy1, vc1, vf1, -⟩ := hb_facts UX
          obtain ⟨vy2, vc2, vf2, -⟩ := hb_facts UO
          clear SX SO SG S6 SB hb7
          by_cases ht : t1 < t2
          · go_wp2_with fail
            go_roundw
            case rel =>
              refine ⟨k + 1, ⟨ex, ey, ea, eb, ed⟩, by omega, by go_num, by rw [HPK.out, if_pos ht], ?_, ?_, ?_, ?_⟩
              · exact ((((UO.setCell_same 0 _).setCell_same 1 _).setCell_same 2 _).setCell_same 3 _).setCell_same 4 _
              · exact (((((UG.setCell_other (a := ⟨go, 0, none⟩) (hne) _).setCell_other (a := ⟨go, 1, none⟩) (hne) _).setCell_other (a := ⟨go, 2, none⟩) (hne) _).setCell_other (a := ⟨go, 3, none⟩) (hne) _).setCell_other (a := ⟨go, 4, none⟩) (hne) _)
              · exact (((((U6.setCell_other (a := ⟨go, 0, none⟩) (by simp only; omega) _).setCell_other (a := ⟨go, 1, none⟩) (by simp only; omega) _).setCell_other (a := ⟨go, 2, none⟩) (by simp only; omega) _).setCell_other (a := ⟨go, 3, none⟩) (by simp only; omega) _).setCell_other (a := ⟨go, 4, none⟩) (by simp only; omega) _)
              · exact (show Below _ _ _ from below_byR)
            case measure => simp [intOf]; omega
          · go_wp2_with fail
            go_roundw
            case rel => exact ⟨k + 1, ⟨qx, qy, qa, qb, qd⟩, by omega, by go_num, by rw [HPK.out, if_neg ht], UO, UG, U6, UB⟩
            case measure => simp [intOf]; omega
        · obtain rfl : k = 2 := by omega
          have hF : Hid (foundE ⟨x, y, a, b, d⟩ O [] = (⟨qx, qy, qa, qb, qd⟩, 0)) := by show _ = _; rw [EV.out, EC.out, HQ0.out]; rfl
          obtain ⟨vy1, vc1, vf1, -⟩ := hb_facts RO.out
          obtain ⟨vy2, vc2, vf2, -⟩ := hb_facts R6.out
          clear EV EC hq
          go_wp2_with fail
          exact bodyPost_row_t 5 #[.int .i64 qx, .int .i64 qy, .int .i64 qa, .int .i64 qb, .int .i64 qd] (.int .i64 0) rfl rfl rfl rfl Tryz.underlying27 rfl (by kernel_rfl) (row_of_cells 4 _ rfl (by intro i hi; rcases i with _ | _ | _ | _ | _ | i; (go_simp); (go_simp); (go_simp); (go_simp); (go_simp); exact absurd hi (by omega))) ⟨by rw [hF.out], below_byR⟩
end Go.Proofs.YtilginoibhfeiaaGreat
namespace Go.Proofs.YtilginoibhfeiaaGreat
open Go.RowKit

theorem gcut_yes (e : El) (f : St) (he : e.may = true) (hf : f.may = true) : gcutE e f = foundE e (cutE e f) [] := by unfold gcutE; rw [if_pos ⟨he, hf⟩]
theorem gcut_no (e : El) (f : St) (h : e.may = false ∨ f.may = false) : gcutE e f = (El.zero, 1) := by
  unfold gcutE; rw [if_neg]; rintro ⟨h1, h2⟩; rcases h with h | h
  · rw [h1] at h; cases h
  · rw [h2] at h; cases h
set_option maxRecDepth 100000 in
set_option maxHeartbeats 4000000 in
theorem gcut_c (x y a b d s1 s2 s3 s4 s5 s6 : Int) (w : World) :
    Calls Tryz.prog 53 #[elC x y a b d, stC s1 s2 s3 s4 s5 s6] w fun e w' => e = .returned (.tuple #[elV (gcutE ⟨x, y, a, b, d⟩ ⟨s1, s2, s3, s4, s5, s6⟩).1, .int .i64 (gcutE ⟨x, y, a, b, d⟩ ⟨s1, s2, s3, s4, s5, s6⟩).2]) ∧ Below w.heap.size w w' := by
  cases hm : El.may ⟨x, y, a, b, d⟩ with
  | false =>
    have HM := Lib.hid hm
    have EV := Lib.hid (gcut_no ⟨x, y, a, b, d⟩ ⟨s1, s2, s3, s4, s5, s6⟩ (.inl hm))
    clear hm
    go_enter Tryz.func53, Tryz.ntmps53
    go_wp2_with fail
    refine (ellmay_v _ _ _ _ _ _ HM.out _).mono ?_; rintro e w1 ⟨rfl, hb1⟩; have z_w1 := hb1.size; (try simp at z_w1); obtain ⟨y_w1_0_0, c_w1_0_0, f_w1_0_0, r_w1_0_0, t_w1_0_0, p_w1_0_0⟩ := bq hb1 (w.heap.size); obtain ⟨y_w1_0_1, c_w1_0_1, f_w1_0_1, r_w1_0_1, t_w1_0_1, p_w1_0_1⟩ := bq hb1 (w.heap.size + 1); obtain ⟨y_w1_0_2, c_w1_0_2, f_w1_0_2, r_w1_0_2, t_w1_0_2, p_w1_0_2⟩ := bq hb1 (w.heap.size + 1 + 1)
    go_wp2_with fail
    exact bodyPost_row_t 5 #[.int .i64 0, .int .i64 0, .int .i64 0, .int .i64 0, .int .i64 0] (.int .i64 1) rfl rfl rfl rfl Tryz.underlying27 rfl (by kernel_rfl) (row_of_cells 4 _ rfl (by intro i hi; rcases i with _ | _ | _ | _ | _ | i; (go_simp); (go_simp); (go_simp); (go_simp); (go_simp); exact absurd hi (by omega))) ⟨by rw [EV.out]; rfl, below_byR⟩
  | true =>
    have HM := Lib.hid hm
    cases hf : St.may ⟨s1, s2, s3, s4, s5, s6⟩ with
    | false =>
      have HF := Lib.hid hf
      have EV := Lib.hid (gcut_no ⟨x, y, a, b, d⟩ ⟨s1, s2, s3, s4, s5, s6⟩ (.inr hf))
      clear hm hf
      go_enter Tryz.func53, Tryz.ntmps53
      go_wp2_with fail
      refine (ellmay_v _ _ _ _ _ _ HM.out _).mono ?_; rintro e w1 ⟨rfl, hb1⟩; have z_w1 := hb1.size; (try simp at z_w1); obtain ⟨y_w1_0_0, c_w1_0_0, f_w1_0_0, r_w1_0_0, t_w1_0_0, p_w1_0_0⟩ := bq hb1 (w.heap.size); obtain ⟨y_w1_0_1, c_w1_0_1, f_w1_0_1, r_w1_0_1, t_w1_0_1, p_w1_0_1⟩ := bq hb1 (w.heap.size + 1); obtain ⟨y_w1_0_2, c_w1_0_2, f_w1_0_2, r_w1_0_2, t_w1_0_2, p_w1_0_2⟩ := bq hb1 (w.heap.size + 1 + 1)
      go_wp2_with fail
      refine (mayStrip_v _ _ _ _ _ _ _ HF.out _).mono ?_; rintro e w2 ⟨rfl, hb2⟩; have z_w2 := hb2.size; (try simp at z_w2); obtain ⟨y_w2_0_0, c_w2_0_0, f_w2_0_0, r_w2_0_0, t_w2_0_0, p_w2_0_0⟩ := bq hb2 (w.heap.size); obtain ⟨y_w2_0_1, c_w2_0_1, f_w2_0_1, r_w2_0_1, t_w2_0_1, p_w2_0_1⟩ := bq hb2 (w.heap.size + 1); obtain ⟨y_w2_0_2, c_w2_0_2, f_w2_0_2, r_w2_0_2, t_w2_0_2, p_w2_0_2⟩ := bq hb2 (w.heap.size + 1 + 1)
      go_wp2_with fail
      exact bodyPost_row_t 5 #[.int .i64 0, .int .i64 0, .int .i64 0, .int .i64 0, .int .i64 0] (.int .i64 1) rfl rfl rfl rfl Tryz.underlying27 rfl (by kernel_rfl) (row_of_cells 4 _ rfl (by intro i hi; rcases i with _ | _ | _ | _ | _ | i; (go_simp); (go_simp); (go_simp); (go_simp); (go_simp); exact absurd hi (by omega))) ⟨by rw [EV.out]; rfl, below_byR⟩
    | true =>
      have HF := Lib.hid hf
      obtain ⟨⟨ox, oy, oa, ob, od⟩, k, ho⟩ : ∃ o k, foundE ⟨x, y, a, b, d⟩ (cutE ⟨x, y, a, b, d⟩ ⟨s1, s2, s3, s4, s5, s6⟩) [] = (o, k) := ⟨_, _, rfl⟩
      have EV : Hid (gcutE ⟨x, y, a, b, d⟩ ⟨s1, s2, s3, s4, s5, s6⟩ = (⟨ox, oy, oa, ob, od⟩, k)) := by show _ = _; rw [gcut_yes _ _ hm hf, ho]
      have HO := Lib.hid ho
      clear hm hf ho
      go_enter Tryz.func53, Tryz.ntmps53
      go_wp2_with fail
      refine (ellmay_v _ _ _ _ _ _ HM.out _).mono ?_; rintro e w1 ⟨rfl, hb1⟩; have z_w1 := hb1.size; (try simp at z_w1); obtain ⟨y_w1_0_0, c_w1_0_0, f_w1_0_0, r_w1_0_0, t_w1_0_0, p_w1_0_0⟩ := bq hb1 (w.heap.size); obtain ⟨y_w1_0_1, c_w1_0_1, f_w1_0_1, r_w1_0_1, t_w1_0_1, p_w1_0_1⟩ := bq hb1 (w.heap.size + 1); obtain ⟨y_w1_0_2, c_w1_0_2, f_w1_0_2, r_w1_0_2, t_w1_0_2, p_w1_0_2⟩ := bq hb1 (w.heap.size + 1 + 1)
      go_wp2_with fail
      refine (mayStrip_v _ _ _ _ _ _ _ HF.out _).mono ?_; rintro e w2 ⟨rfl, hb2⟩; have z_w2 := hb2.size; (try simp at z_w2); obtain ⟨y_w2_0_0, c_w2_0_0, f_w2_0_0, r_w2_0_0, t_w2_0_0, p_w2_0_0⟩ := bq hb2 (w.heap.size); obtain ⟨y_w2_0_1, c_w2_0_1, f_w2_0_1, r_w2_0_1, t_w2_0_1, p_w2_0_1⟩ := bq hb2 (w.heap.size + 1); obtain ⟨y_w2_0_2, c_w2_0_2, f_w2_0_2, r_w2_0_2, t_w2_0_2, p_w2_0_2⟩ := bq hb2 (w.heap.size + 1 + 1)
      have BE := ((((Blk.new w #[.int .i64 x, .int .i64 y, .int .i64 a, .int .i64 b, .int .i64 d] 27).alloc _).alloc _).keep hb1).keep hb2
      have BF := (((Blk.new' (w.alloc _) #[.int .i64 s1, .int .i64 s2, .int .i64 s3, .int .i64 s4, .int .i64 s5, .int .i64 s6] 39 (b := w.heap.size + 1) (by simp)).alloc _).keep hb1).keep hb2
      go_wp2_with fail
      have FC := found0_c x y a b d 126 #[.pointer (some ⟨w.heap.size, 0, none⟩), .pointer (some ⟨w.heap.size + 1, 0, none⟩)] (cutE ⟨x, y, a, b, d⟩ ⟨s1, s2, s3, s4, s5, s6⟩) w2 (by intro args w; rfl)
        (fun k w' _ _ hb => gc1_c x y a b d s1 s2 s3 s4 s5 s6 k _ _ w' (BE.keep hb) (BF.keep hb))
      rw [HO.out] at FC
      clear BE BF
      refine FC.mono ?_; rintro e w3 ⟨rfl, hb3⟩; have z_w3 := hb3.size; (try simp at z_w3); obtain ⟨y_w3_0_0, c_w3_0_0, f_w3_0_0, r_w3_0_0, t_w3_0_0, p_w3_0_0⟩ := bq hb3 (w.heap.size); obtain ⟨y_w3_0_1, c_w3_0_1, f_w3_0_1, r_w3_0_1, t_w3_0_1, p_w3_0_1⟩ := bq hb3 (w.heap.size + 1); obtain ⟨y_w3_0_2, c_w3_0_2, f_w3_0_2, r_w3_0_2, t_w3_0_2, p_w3_0_2⟩ := bq hb3 (w.heap.size + 1 + 1)
      go_wp2_with fail
      exact bodyPost_row_t 5 #[.int .i64 ox, .int .i64 oy, .int .i64 oa, .int .i64 ob, .int .i64 od] (.int .i64 k) rfl rfl rfl rfl Tryz.underlying27 rfl (by kernel_rfl) (row_of_cells 4 _ rfl (by intro i hi; rcases i with _ | _ | _ | _ | _ | i; (go_simp); (go_simp); (go_simp); (go_simp); (go_simp); exact absurd hi (by omega))) ⟨by rw [EV.out], below_byR⟩
theorem gcut_v (x y a b d s1 s2 s3 s4 s5 s6 ox oy oa ob od k : Int) (h : gcutE ⟨x, y, a, b, d⟩ ⟨s1, s2, s3, s4, s5, s6⟩ = (⟨ox, oy, oa, ob, od⟩, k)) (w : World) :
    Calls Tryz.prog 53 #[elC x y a b d, stC s1 s2 s3 s4 s5 s6] w fun e w' => e = .returned (.tuple #[elC ox oy oa ob od, .int .i64 k]) ∧ Below w.heap.size w w' := by
  have := gcut_c x y a b d s1 s2 s3 s4 s5 s6 w
  rw [h] at this; exact this
/-- What golden.Cut says of an ellipse and a strip that may be. -/
theorem gcuts (e : El) (s : St) (he : e.may = true) (hs : s.may = true) (p q l : Int) (hl : s.hx * (p - s.ox) + s.hy * (q - s.oy) = l) {g : El} {k : Int} (hg : gcutE e s = (g, k)) :
    (k = 3 ∧ ¬ (e.has p q = true ∧ s.lo ≤ l ∧ l ≤ s.hi)) ∨ (k = 0 ∧ (e.has p q = true → s.lo ≤ l → l ≤ s.hi → g.has p q = true) ∧ g.tr ≤ e.tr) := by
  rw [gcut_yes e s he hs] at hg
  rcases found_cases e (cutE e s) [] with ⟨⟨x, h0, h1, h3⟩, h⟩ | ⟨o, h, hc, t1, -, -⟩
  · rw [h] at hg; injection hg with _ hk
    left
    refine ⟨hk.symm, fun hb => ?_⟩
    exact (cut_meets e s x p q l h0 h1 hb.1 hs hl hb.2.1 hb.2.2 (o := (cutE e s x).1) (er := (cutE e s x).2) rfl).1 h3
  · rw [h] at hg; injection hg with hg hk; subst hg
    right
    refine ⟨hk.symm, ?_, t1⟩
    intro a1 a2 a3
    rcases hc with rfl | ⟨x, h0, h1, hx⟩ | hc
    · exact a1
    · exact (cut_meets e s x p q l h0 h1 a1 hs hl a2 a3 hx).2 rfl
    · cases hc
end Go.Proofs.YtilginoibhfeiaaGreat
namespace Go.Proofs.YtilginoibhfeiaaGreat
open Go.RowKit

/-- Behind the ball: the ring's strip is cut. -/
def updB (e n : El) (lo hi : Int) : El × Int :=
  if (ringE e n lo hi).2 = 3 then (El.zero, 3)
  else if (ringE e n lo hi).2 = 0 then (if (gcutE e (ringE e n lo hi).1).2 = 3 then (El.zero, 3) else if (gcutE e (ringE e n lo hi).1).2 = 0 then ((gcutE e (ringE e n lo hi).1).1, 0) else (e, 0))
  else (e, 0)
def updE (e n : El) (lo hi : Int) : El × Int :=
  if e.may = true ∧ n.may = true ∧ mayRange lo hi = true then
    if (ballE n.x n.y (hi + n.rad)).2 = 0 then
      if (gfuseE e (ballE n.x n.y (hi + n.rad)).1).2 = 3 then (El.zero, 3)
      else if (gfuseE e (ballE n.x n.y (hi + n.rad)).1).2 = 0 then updB (gfuseE e (ballE n.x n.y (hi + n.rad)).1).1 n lo hi
      else updB e n lo hi
    else updB e n lo hi
  else (El.zero, 1)
section
variable {e n : El} {p q p' q' lo hi : Int} (t : Told e n p q p' q' lo hi)
include t
theorem updB_holds : ∃ o, updB e n lo hi = (o, 0) ∧ o.has p q = true := by
  have hem := ((El.has_iff _ _ _).1 t.he).1
  have hnm := ((El.has_iff _ _ _).1 t.hn).1
  by_cases hne : e.x - n.x = 0 ∧ e.y - n.y = 0
  · have h7 : ringE e n lo hi = (⟨0, 0, 0, 0, 0, 0⟩, 7) := by unfold ringE; rw [if_pos ⟨hem, hnm, t.hr⟩, if_pos hne]
    refine ⟨e, ?_, t.he⟩
    unfold updB
    rw [h7, if_neg (by decide), if_neg (by decide)]
  · obtain ⟨s, hs, sm, l1, l2⟩ := ring_holds t hne
    rcases gcuts e s hem sm p q _ rfl (g := (gcutE e s).1) (k := (gcutE e s).2) rfl with ⟨-, h'⟩ | ⟨h0, h1, -⟩
    · exact absurd ⟨t.he, l1, l2⟩ h'
    · refine ⟨(gcutE e s).1, ?_, h1 t.he l1 l2⟩
      unfold updB
      rw [hs, if_neg (show ¬ (s, (0 : Int)).2 = 3 by simp), if_pos rfl]
      simp only
      rw [if_neg (by omega), if_pos h0]
theorem upd_holds : ∃ o, updE e n lo hi = (o, 0) ∧ o.has p q = true := by
  have hem := ((El.has_iff _ _ _).1 t.he).1
  have hnm := ((El.has_iff _ _ _).1 t.hn).1
  unfold updE
  rw [if_pos ⟨hem, hnm, t.hr⟩]
  by_cases hb : (ballE n.x n.y (hi + n.rad)).2 = 0
  · rw [if_pos hb]
    have hb1 : mayPt n.x n.y = true ∧ 1 ≤ hi + n.rad ∧ hi + n.rad ≤ 4194304 := by
      unfold ballE at hb
      split at hb
      · assumption
      · cases hb
    have hbe : (ballE n.x n.y (hi + n.rad)).1 = ⟨n.x, n.y, (hi + n.rad) * (hi + n.rad), 0, (hi + n.rad) * (hi + n.rad)⟩ := by unfold ballE; rw [if_pos hb1]
    have bh : (ballE n.x n.y (hi + n.rad)).1.has p q = true := by
      rw [hbe]
      have := ball_has n.x n.y (hi + n.rad) (p - n.x) (q - n.y) hb1.1 hb1.2.1 hb1.2.2 (told_far t)
      rw [show n.x + (p - n.x) = p by omega, show n.y + (q - n.y) = q by omega] at this
      exact this
    have bm := ((El.has_iff _ _ _).1 bh).1
    rcases gholds e _ hem bm p q (g := (gfuseE e (ballE n.x n.y (hi + n.rad)).1).1) (k := (gfuseE e (ballE n.x n.y (hi + n.rad)).1).2) rfl with ⟨-, h'⟩ | ⟨h0, h1, gm, t1, -⟩
    · exact absurd ⟨t.he, bh⟩ h'
    · rw [if_neg (by omega), if_pos h0]
      exact updB_holds (e := (gfuseE e (ballE n.x n.y (hi + n.rad)).1).1) ⟨h1 t.he bh, t.hn, t.hlo, t.hhi, t.hr⟩
  · rw [if_neg hb]; exact updB_holds t
end
end Go.Proofs.YtilginoibhfeiaaGreat
namespace Go.Proofs.YtilginoibhfeiaaGreat
open Go.RowKit

theorem updB_cases (e n c : El) (lo hi : Int) (s : St) (kr kc : Int) (h1 : ringE e n lo hi = (s, kr)) (h2 : gcutE e s = (c, kc)) :
    (kr = 3 ∧ updB e n lo hi = (El.zero, 3)) ∨ (kr = 0 ∧ kc = 3 ∧ updB e n lo hi = (El.zero, 3)) ∨ (kr = 0 ∧ kc = 0 ∧ updB e n lo hi = (c, 0)) ∨ (kr = 0 ∧ ¬ kc = 0 ∧ ¬ kc = 3 ∧ updB e n lo hi = (e, 0)) ∨ (¬ kr = 0 ∧ ¬ kr = 3 ∧ updB e n lo hi = (e, 0)) := by
  unfold updB
  rw [h1]
  simp only
  rw [h2]
  simp only
  by_cases r3 : kr = 3
  · left; exact ⟨r3, by rw [if_pos r3]⟩
  · right
    rw [if_neg r3]
    by_cases r0 : kr = 0
    · rw [if_pos r0]
      by_cases c3 : kc = 3
      · left; exact ⟨r0, c3, by rw [if_pos c3]⟩
      · rw [if_neg c3]
        by_cases c0 : kc = 0
        · right; left; exact ⟨r0, c0, by rw [if_pos c0]⟩
        · right; right; left; exact ⟨r0, c0, c3, by rw [if_neg c0]⟩
    · right; right; right; exact ⟨r0, r3, by rw [if_neg r0]⟩
theorem upd_cases (e n b f : El) (lo hi kb kf : Int) (he : e.may = true) (hn : n.may = true) (hr : mayRange lo hi = true) (h1 : ballE n.x n.y (hi + n.rad) = (b, kb)) (h2 : gfuseE e b = (f, kf)) :
    (¬ kb = 0 ∧ updE e n lo hi = updB e n lo hi) ∨ (kb = 0 ∧ kf = 3 ∧ updE e n lo hi = (El.zero, 3)) ∨ (kb = 0 ∧ kf = 0 ∧ updE e n lo hi = updB f n lo hi) := by
  unfold updE
  rw [if_pos ⟨he, hn, hr⟩, h1]
  simp only
  rw [h2]
  simp only
  by_cases b0 : kb = 0
  · right
    rw [if_pos b0]
    have bm : b.may = true := by
      unfold ballE at h1
      split at h1
      · rename_i hc
        injection h1 with h1 _; subst h1
        exact ball_may _ _ _ hc.1 hc.2.1 hc.2.2
      · injection h1 with _ h1; omega
    rcases gholds e b he bm 0 0 h2 with ⟨h3, -⟩ | ⟨h0, -⟩
    · left; exact ⟨b0, h3, by rw [if_pos h3]⟩
    · right; exact ⟨b0, h0, by rw [if_neg (by omega), if_pos h0]⟩
  · left; exact ⟨b0, by rw [if_neg b0]⟩
theorem el_cells5 {w : World} {g : Nat} {x y a b d : Int} {t : TypeId} (C : Blk w g #[.int .i64 x, .int .i64 y, .int .i64 a, .int .i64 b, .int .i64 d] t) :
    w.cell? ⟨g, 0, none⟩ = some (.int .i64 x) ∧ w.cell? ⟨g, 1, none⟩ = some (.int .i64 y) ∧ w.cell? ⟨g, 2, none⟩ = some (.int .i64 a) ∧ w.cell? ⟨g, 3, none⟩ = some (.int .i64 b) ∧ w.cell? ⟨g, 4, none⟩ = some (.int .i64 d) :=
  ⟨C.cell rfl, C.cell rfl, C.cell rfl, C.cell rfl, C.cell rfl⟩
theorem upd_no (e n : El) (lo hi : Int) (h : e.may = false ∨ n.may = false ∨ mayRange lo hi = false) : updE e n lo hi = (El.zero, 1) := by
  unfold updE; rw [if_neg]; rintro ⟨h1, h2, h3⟩; rw [h1, h2, h3] at h; simp at h
set_option maxRecDepth 100000 in
set_option maxHeartbeats 8000000 in
theorem upd_c (x y a b d x' y' a' b' d' lo hi : Int) (w : World) :
    Calls Tryz.prog 21 #[elC x y a b d, elC x' y' a' b' d', .int .i64 lo, .int .i64 hi] w fun e w' => e = .returned (.tuple #[elV (updE ⟨x, y, a, b, d⟩ ⟨x', y', a', b', d'⟩ lo hi).1, .int .i64 (updE ⟨x, y, a, b, d⟩ ⟨x', y', a', b', d'⟩ lo hi).2]) ∧ Below w.heap.size w w' := by
  rcases ring_cases ⟨x, y, a, b, d⟩ ⟨x', y', a', b', d'⟩ lo hi with h1 | ⟨h1, h2⟩ | ⟨h1, h2, h3⟩ | ⟨h1, h2, h3⟩
  · have EV := Lib.hid (upd_no ⟨x, y, a, b, d⟩ ⟨x', y', a', b', d'⟩ lo hi (.inl h1))
    have H1 := Lib.hid h1
    clear h1
    go_enter Tryz.func21, Tryz.ntmps21
    go_wp2_with fail
    refine (ellmay_v _ _ _ _ _ _ H1.out _).mono ?_; rintro e w1 ⟨rfl, hb1⟩; have z_w1 := hb1.size; (try simp at z_w1); obtain ⟨y_w1_0_0, c_w1_0_0, f_w1_0_0, r_w1_0_0, t_w1_0_0, p_w1_0_0⟩ := bq hb1 (w.heap.size); obtain ⟨y_w1_0_1, c_w1_0_1, f_w1_0_1, r_w1_0_1, t_w1_0_1, p_w1_0_1⟩ := bq hb1 (w.heap.size + 1); obtain ⟨y_w1_0_2, c_w1_0_2, f_w1_0_2, r_w1_0_2, t_w1_0_2, p_w1_0_2⟩ := bq hb1 (w.heap.size + 1 + 1)
    go_wp2_with fail
    exact bodyPost_row_t 5 #[.int .i64 0, .int .i64 0, .int .i64 0, .int .i64 0, .int .i64 0] (.int .i64 1) rfl rfl rfl rfl Tryz.underlying27 rfl (by kernel_rfl) (row_of_cells 4 _ rfl (by intro i hi; rcases i with _ | _ | _ | _ | _ | i; (go_simp); (go_simp); (go_simp); (go_simp); (go_simp); exact absurd hi (by omega))) ⟨by rw [EV.out]; rfl, below_byR⟩
  · have EV := Lib.hid (upd_no ⟨x, y, a, b, d⟩ ⟨x', y', a', b', d'⟩ lo hi (.inr (.inl h2)))
    have H1 := Lib.hid h1
    have H2 := Lib.hid h2
    clear h1 h2
    go_enter Tryz.func21, Tryz.ntmps21
    go_wp2_with fail
    refine (ellmay_v _ _ _ _ _ _ H1.out _).mono ?_; rintro e w1 ⟨rfl, hb1⟩; have z_w1 := hb1.size; (try simp at z_w1); obtain ⟨y_w1_0_0, c_w1_0_0, f_w1_0_0, r_w1_0_0, t_w1_0_0, p_w1_0_0⟩ := bq hb1 (w.heap.size); obtain ⟨y_w1_0_1, c_w1_0_1, f_w1_0_1, r_w1_0_1, t_w1_0_1, p_w1_0_1⟩ := bq hb1 (w.heap.size + 1); obtain ⟨y_w1_0_2, c_w1_0_2, f_w1_0_2, r_w1_0_2, t_w1_0_2, p_w1_0_2⟩ := bq hb1 (w.heap.size + 1 + 1)
    go_wp2_with fail
    refine (ellmay_v _ _ _ _ _ _ H2.out _).mono ?_; rintro e w2 ⟨rfl, hb2⟩; have z_w2 := hb2.size; (try simp at z_w2); obtain ⟨y_w2_0_0, c_w2_0_0, f_w2_0_0, r_w2_0_0, t_w2_0_0, p_w2_0_0⟩ := bq hb2 (w.heap.size); obtain ⟨y_w2_0_1, c_w2_0_1, f_w2_0_1, r_w2_0_1, t_w2_0_1, p_w2_0_1⟩ := bq hb2 (w.heap.size + 1); obtain ⟨y_w2_0_2, c_w2_0_2, f_w2_0_2, r_w2_0_2, t_w2_0_2, p_w2_0_2⟩ := bq hb2 (w.heap.size + 1 + 1)
    go_wp2_with fail
    exact bodyPost_row_t 5 #[.int .i64 0, .int .i64 0, .int .i64 0, .int .i64 0, .int .i64 0] (.int .i64 1) rfl rfl rfl rfl Tryz.underlying27 rfl (by kernel_rfl) (row_of_cells 4 _ rfl (by intro i hi; rcases i with _ | _ | _ | _ | _ | i; (go_simp); (go_simp); (go_simp); (go_simp); (go_simp); exact absurd hi (by omega))) ⟨by rw [EV.out]; rfl, below_byR⟩
  · have EV := Lib.hid (upd_no ⟨x, y, a, b, d⟩ ⟨x', y', a', b', d'⟩ lo hi (.inr (.inr h3)))
    have H1 := Lib.hid h1
    have H2 := Lib.hid h2
    have H3 := Lib.hid h3
    clear h1 h2 h3
    go_enter Tryz.func21, Tryz.ntmps21
    go_wp2_with fail
    refine (ellmay_v _ _ _ _ _ _ H1.out _).mono ?_; rintro e w1 ⟨rfl, hb1⟩; have z_w1 := hb1.size; (try simp at z_w1); obtain ⟨y_w1_0_0, c_w1_0_0, f_w1_0_0, r_w1_0_0, t_w1_0_0, p_w1_0_0⟩ := bq hb1 (w.heap.size); obtain ⟨y_w1_0_1, c_w1_0_1, f_w1_0_1, r_w1_0_1, t_w1_0_1, p_w1_0_1⟩ := bq hb1 (w.heap.size + 1); obtain ⟨y_w1_0_2, c_w1_0_2, f_w1_0_2, r_w1_0_2, t_w1_0_2, p_w1_0_2⟩ := bq hb1 (w.heap.size + 1 + 1)
    go_wp2_with fail
    refine (ellmay_v _ _ _ _ _ _ H2.out _).mono ?_; rintro e w2 ⟨rfl, hb2⟩; have z_w2 := hb2.size; (try simp at z_w2); obtain ⟨y_w2_0_0, c_w2_0_0, f_w2_0_0, r_w2_0_0, t_w2_0_0, p_w2_0_0⟩ := bq hb2 (w.heap.size); obtain ⟨y_w2_0_1, c_w2_0_1, f_w2_0_1, r_w2_0_1, t_w2_0_1, p_w2_0_1⟩ := bq hb2 (w.heap.size + 1); obtain ⟨y_w2_0_2, c_w2_0_2, f_w2_0_2, r_w2_0_2, t_w2_0_2, p_w2_0_2⟩ := bq hb2 (w.heap.size + 1 + 1)
    go_wp2_with fail
    refine (smay_v _ _ _ H3.out _).mono ?_; rintro e w3 ⟨rfl, hb3⟩; have z_w3 := hb3.size; (try simp at z_w3); obtain ⟨y_w3_0_0, c_w3_0_0, f_w3_0_0, r_w3_0_0, t_w3_0_0, p_w3_0_0⟩ := bq hb3 (w.heap.size); obtain ⟨y_w3_0_1, c_w3_0_1, f_w3_0_1, r_w3_0_1, t_w3_0_1, p_w3_0_1⟩ := bq hb3 (w.heap.size + 1); obtain ⟨y_w3_0_2, c_w3_0_2, f_w3_0_2, r_w3_0_2, t_w3_0_2, p_w3_0_2⟩ := bq hb3 (w.heap.size + 1 + 1)
    go_wp2_with fail
    exact bodyPost_row_t 5 #[.int .i64 0, .int .i64 0, .int .i64 0, .int .i64 0, .int .i64 0] (.int .i64 1) rfl rfl rfl rfl Tryz.underlying27 rfl (by kernel_rfl) (row_of_cells 4 _ rfl (by intro i hi; rcases i with _ | _ | _ | _ | _ | i; (go_simp); (go_simp); (go_simp); (go_simp); (go_simp); exact absurd hi (by omega))) ⟨by rw [EV.out]; rfl, below_byR⟩
  · have rl := El.rad_le ⟨x', y', a', b', d'⟩
    have r0 := rad_nat ⟨x', y', a', b', d'⟩
    have hrr := (mayRange_iff _ _).1 h3
    obtain ⟨R, hR⟩ : ∃ R, El.rad ⟨x', y', a', b', d'⟩ = R := ⟨_, rfl⟩
    obtain ⟨far, hf⟩ : ∃ h, hi + R = h := ⟨_, rfl⟩
    rw [hR] at rl r0
    have wr : wrap64 (hi + R) = far := by rw [hf]; unfold wrap64; omega
    have wr2 : IntKind.i64.wrap (hi + R) = far := by rw [IntKind.wrap_i64, hf]; omega
    obtain ⟨⟨bx, bY, ba, bb, bd⟩, kb, hb⟩ : ∃ o k, ballE x' y' far = (o, k) := ⟨_, _, rfl⟩
    obtain ⟨⟨fx, fy, fa, fb, fd⟩, kf, hfu⟩ : ∃ o k, gfuseE ⟨x, y, a, b, d⟩ ⟨bx, bY, ba, bb, bd⟩ = (o, k) := ⟨_, _, rfl⟩
    have UC := upd_cases ⟨x, y, a, b, d⟩ ⟨x', y', a', b', d'⟩ _ _ lo hi kb kf h1 h2 h3 (by show ballE x' y' (hi + El.rad ⟨x', y', a', b', d'⟩) = _; rw [hR, hf]; exact hb) hfu
    have H1 := Lib.hid h1
    have H2 := Lib.hid h2
    have H3 := Lib.hid h3
    have ER := Lib.hid hR
    have EB := Lib.hid hb
    have EF := Lib.hid hfu
    have UH := Lib.hid UC
    clear h1 h2 h3 hR hf hb hfu rl r0 hrr UC
    go_enter Tryz.func21, Tryz.ntmps21
    go_wp2_with fail
    refine (ellmay_v _ _ _ _ _ _ H1.out _).mono ?_; rintro e w1 ⟨rfl, hb1⟩; have z_w1 := hb1.size; (try simp at z_w1); obtain ⟨y_w1_0_0, c_w1_0_0, f_w1_0_0, r_w1_0_0, t_w1_0_0, p_w1_0_0⟩ := bq hb1 (w.heap.size); obtain ⟨y_w1_0_1, c_w1_0_1, f_w1_0_1, r_w1_0_1, t_w1_0_1, p_w1_0_1⟩ := bq hb1 (w.heap.size + 1); obtain ⟨y_w1_0_2, c_w1_0_2, f_w1_0_2, r_w1_0_2, t_w1_0_2, p_w1_0_2⟩ := bq hb1 (w.heap.size + 1 + 1)
    go_wp2_with fail
    refine (ellmay_v _ _ _ _ _ _ H2.out _).mono ?_; rintro e w2 ⟨rfl, hb2⟩; have z_w2 := hb2.size; (try simp at z_w2); obtain ⟨y_w2_0_0, c_w2_0_0, f_w2_0_0, r_w2_0_0, t_w2_0_0, p_w2_0_0⟩ := bq hb2 (w.heap.size); obtain ⟨y_w2_0_1, c_w2_0_1, f_w2_0_1, r_w2_0_1, t_w2_0_1, p_w2_0_1⟩ := bq hb2 (w.heap.size + 1); obtain ⟨y_w2_0_2, c_w2_0_2, f_w2_0_2, r_w2_0_2, t_w2_0_2, p_w2_0_2⟩ := bq hb2 (w.heap.size + 1 + 1)
    go_wp2_with fail
    refine (smay_v _ _ _ H3.out _).mono ?_; rintro e w3 ⟨rfl, hb3⟩; have z_w3 := hb3.size; (try simp at z_w3); obtain ⟨y_w3_0_0, c_w3_0_0, f_w3_0_0, r_w3_0_0, t_w3_0_0, p_w3_0_0⟩ := bq hb3 (w.heap.size); obtain ⟨y_w3_0_1, c_w3_0_1, f_w3_0_1, r_w3_0_1, t_w3_0_1, p_w3_0_1⟩ := bq hb3 (w.heap.size + 1); obtain ⟨y_w3_0_2, c_w3_0_2, f_w3_0_2, r_w3_0_2, t_w3_0_2, p_w3_0_2⟩ := bq hb3 (w.heap.size + 1 + 1)
    go_wp2_with fail
    have HBW : Hid (Below w.heap.size w w3) := (show Below _ _ _ from below_byR)
    have X0 : Hid (Blk w3 w.heap.size #[.int .i64 x, .int .i64 y, .int .i64 a, .int .i64 b, .int .i64 d] 27) := (((((Blk.new w _ _).alloc _).alloc _).keep hb1).keep hb2).keep hb3
    have X1 : Hid (Blk w3 (w.heap.size + 1) #[.int .i64 x', .int .i64 y', .int .i64 a', .int .i64 b', .int .i64 d'] 27) := ((((Blk.new' (w.alloc _) _ _ (by simp)).alloc _).keep hb1).keep hb2).keep hb3
    have X2 : Hid (Blk w3 (w.heap.size + 1 + 1) #[.int .i64 0, .int .i64 0, .int .i64 0, .int .i64 0, .int .i64 0] 27) := (((Blk.new' ((w.alloc _).alloc _) _ _ (by simp)).keep hb1).keep hb2).keep hb3
    have l3 := X2.out.lt
    clear z_w3 y_w3_0_0 c_w3_0_0 f_w3_0_0 r_w3_0_0 t_w3_0_0 p_w3_0_0 y_w3_0_1 c_w3_0_1 f_w3_0_1 r_w3_0_1 t_w3_0_1 p_w3_0_1 y_w3_0_2 c_w3_0_2 f_w3_0_2 r_w3_0_2 t_w3_0_2 p_w3_0_2
    clear z_w2 y_w2_0_0 c_w2_0_0 f_w2_0_0 r_w2_0_0 t_w2_0_0 p_w2_0_0 y_w2_0_1 c_w2_0_1 f_w2_0_1 r_w2_0_1 t_w2_0_1 p_w2_0_1 y_w2_0_2 c_w2_0_2 f_w2_0_2 r_w2_0_2 t_w2_0_2 p_w2_0_2
    clear z_w1 y_w1_0_0 c_w1_0_0 f_w1_0_0 r_w1_0_0 t_w1_0_0 p_w1_0_0 y_w1_0_1 c_w1_0_1 f_w1_0_1 r_w1_0_1 t_w1_0_1 p_w1_0_1 y_w1_0_2 c_w1_0_2 f_w1_0_2 r_w1_0_2 t_w1_0_2 p_w1_0_2
    clear hb1 hb2 hb3
    go_cut [10, 11] from 12 (fun s10 s11 wc => ∃ g, s10 = .pointer (some ⟨g, 0, none⟩) ∧ s11 = .int .i64 kb ∧ w3.heap.size ≤ g ∧ Hid (Blk wc g #[.int .i64 bx, .int .i64 bY, .int .i64 ba, .int .i64 bb, .int .i64 bd] 27) ∧ Hid (Below w3.heap.size w3 wc))
    case first =>
      have XX : Blk w3 (w.heap.size + 1) #[.int .i64 x', .int .i64 y', .int .i64 a', .int .i64 b', .int .i64 d'] 27 := X1.out
      have rr := el_cells5 XX
      go_region_held3 (fun w' => w'.cell? ⟨w.heap.size + 1, 0, none⟩ = some (.int .i64 x') ∧ w'.cell? ⟨w.heap.size + 1, 1, none⟩ = some (.int .i64 y') ∧ w'.cell? ⟨w.heap.size + 1, 2, none⟩ = some (.int .i64 a') ∧ w'.cell? ⟨w.heap.size + 1, 3, none⟩ = some (.int .i64 b') ∧ w'.cell? ⟨w.heap.size + 1, 4, none⟩ = some (.int .i64 d')) (first | with_reducible exact rr | (with_reducible refine el_cells5 (t := 27) ?_; (repeat (first | with_reducible exact XX | with_reducible refine Blk.drew ?_ | with_reducible refine Blk.alloc ?_ _)); done) | go_simp)
        (first
          | (go_at_call 76; refine (rad_v _ _ _ _ _ _ ER.out _).mono ?_; rintro e w4 ⟨rfl, hb4⟩; have XX : Blk w4 (w.heap.size + 1) #[.int .i64 x', .int .i64 y', .int .i64 a', .int .i64 b', .int .i64 d'] 27 := (by (with_reducible refine Blk.keep ?_ hb4); (repeat (first | with_reducible exact XX | with_reducible refine Blk.drew ?_ | with_reducible refine Blk.alloc ?_ _))); have rr := el_cells5 XX; have z_w4 := hb4.size; (try simp at z_w4); (try (refine with_imp (bk hb4 (w3.heap.size)) ?_ ?_; (focus (first | omega | (simp; done) | (simp; omega))); rintro ⟨y_w4_q0, c_w4_q0, f_w4_q0, r_w4_q0, t_w4_q0, p_w4_q0⟩)))
          | (go_at_call 67; refine (ellball_v _ _ _ _ _ _ _ _ _ EB.out _).mono ?_; rintro e w5 ⟨rfl, hb5⟩; have XX : Blk w5 (w.heap.size + 1) #[.int .i64 x', .int .i64 y', .int .i64 a', .int .i64 b', .int .i64 d'] 27 := (by (with_reducible refine Blk.keep ?_ hb5); (repeat (first | with_reducible exact XX | with_reducible refine Blk.drew ?_ | with_reducible refine Blk.alloc ?_ _))); have rr := el_cells5 XX; have z_w5 := hb5.size; (try simp at z_w5); (try (refine with_imp (bk hb5 (w3.heap.size)) ?_ ?_; (focus (first | omega | (simp; done) | (simp; omega))); rintro ⟨y_w5_q0, c_w5_q0, f_w5_q0, r_w5_q0, t_w5_q0, p_w5_q0⟩)); (try (refine with_imp (bk hb5 (w4.heap.size)) ?_ ?_; (focus (first | omega | (simp; done) | (simp; omega))); rintro ⟨y_w5_q1, c_w5_q1, f_w5_q1, r_w5_q1, t_w5_q1, p_w5_q1⟩))))
      all_goals go_wp2_with fail
      all_goals go_meet
      all_goals refine ⟨_, rfl, rfl, (by first | omega | (simp; done) | (simp; omega) | fail), ?_, ?_⟩
      all_goals first
        | (show Below _ _ _; exact below_byR)
        | (show Blk _ _ _ _; apply Blk.of_eq; (focus (repeat (first | with_reducible exact Blk.new _ _ _ | with_reducible apply Blk.drew | with_reducible apply Blk.setCell_same | with_reducible apply Blk.keep (hb := hb5) | with_reducible apply Blk.keep (hb := hb4) | with_reducible apply Blk.alloc))); rfl)
    case rest =>
      obtain ⟨g10, rfl, rfl, l10, HG, HBn⟩ := hcut
      have Y0 := Lib.hid (X0.out.keep HBn.out)
      have Y1 := Lib.hid (X1.out.keep HBn.out)
      have Y2 := Lib.hid (X2.out.keep HBn.out)
      have HB := Lib.hid (Below.trans HBW.out (HBn.out.mono HBW.out.size))
      have ly := X2.out.lt
      obtain ⟨y0, c0, f0, -⟩ := hb_facts Y0.out
      obtain ⟨y1, c1, f1, -⟩ := hb_facts Y1.out
      obtain ⟨y2, c2, f2, -⟩ := hb_facts Y2.out
      obtain ⟨y3, c3, f3, -⟩ := hb_facts HG.out
      have n0 : ¬ (g10 = w.heap.size) := by omega
      have n1 : ¬ (g10 = w.heap.size + 1) := by omega
      have n2 : ¬ (g10 = w.heap.size + 1 + 1) := by omega
      have hbw := HB.out
      have bs := hbw.size
      clear HG HBn HBW X0 X1 X2
      rcases UH.out with ⟨k0, hv⟩ | ⟨k0, k3, hv⟩ | ⟨k0, k3, hv⟩
      · have EU := Lib.hid hv
        have k0b : (kb == 0) = false := by simp [k0]
        clear hv UH
        obtain ⟨⟨s1, s2, s3, s4, s5, s6⟩, kr, hrg⟩ : ∃ o k, ringE ⟨x, y, a, b, d⟩ ⟨x', y', a', b', d'⟩ lo hi = (o, k) := ⟨_, _, rfl⟩
        obtain ⟨⟨q1, q2, q3, q4, q5⟩, kc, hct⟩ : ∃ o k, gcutE ⟨x, y, a, b, d⟩ ⟨s1, s2, s3, s4, s5, s6⟩ = (o, k) := ⟨_, _, rfl⟩
        have BC := updB_cases _ _ _ lo hi _ kr kc hrg hct
        rw [← EU.out] at BC
        have ERG := Lib.hid hrg
        have ECT := Lib.hid hct
        clear hrg hct EU
        go_wp2_with fail
        refine (ring_v _ _ _ _ _ _ _ _ _ _ _ _ _ _ _ _ _ _ _ ERG.out _).mono ?_; rintro e w5 ⟨rfl, hb5⟩; have z_w5 := hb5.size; (try simp at z_w5); obtain ⟨y_w5_0_0, c_w5_0_0, f_w5_0_0, r_w5_0_0, t_w5_0_0, p_w5_0_0⟩ := bq hb5 (w.heap.size); obtain ⟨y_w5_0_1, c_w5_0_1, f_w5_0_1, r_w5_0_1, t_w5_0_1, p_w5_0_1⟩ := bq hb5 (w.heap.size + 1); obtain ⟨y_w5_0_2, c_w5_0_2, f_w5_0_2, r_w5_0_2, t_w5_0_2, p_w5_0_2⟩ := bq hb5 (w.heap.size + 1 + 1)
        rcases BC with ⟨rfl, hv⟩ | ⟨rfl, rfl, hv⟩ | ⟨rfl, rfl, hv⟩ | ⟨rfl, hc0, hc3, hv⟩ | ⟨hr0, hr3, hv⟩
        · have EV := Lib.hid hv
          clear hv
          go_wp2_with fail
          exact bodyPost_row_t 5 #[.int .i64 0, .int .i64 0, .int .i64 0, .int .i64 0, .int .i64 0] (.int .i64 3) rfl rfl rfl rfl Tryz.underlying27 rfl (by kernel_rfl) (row_of_cells 4 _ rfl (by intro i hi; rcases i with _ | _ | _ | _ | _ | i; (go_simp); (go_simp); (go_simp); (go_simp); (go_simp); exact absurd hi (by omega))) ⟨by rw [EV.out]; rfl, below_byR⟩
        · have EV := Lib.hid hv
          clear hv
          go_wp2_with fail
          refine (gcut_v _ _ _ _ _ _ _ _ _ _ _ _ _ _ _ _ _ ECT.out _).mono ?_; rintro e w6 ⟨rfl, hb6⟩; have z_w6 := hb6.size; (try simp at z_w6); obtain ⟨y_w6_0_0, c_w6_0_0, f_w6_0_0, r_w6_0_0, t_w6_0_0, p_w6_0_0⟩ := bq hb6 (w.heap.size); obtain ⟨y_w6_0_1, c_w6_0_1, f_w6_0_1, r_w6_0_1, t_w6_0_1, p_w6_0_1⟩ := bq hb6 (w.heap.size + 1); obtain ⟨y_w6_0_2, c_w6_0_2, f_w6_0_2, r_w6_0_2, t_w6_0_2, p_w6_0_2⟩ := bq hb6 (w.heap.size + 1 + 1)
          go_wp2_with fail
          exact bodyPost_row_t 5 #[.int .i64 0, .int .i64 0, .int .i64 0, .int .i64 0, .int .i64 0] (.int .i64 3) rfl rfl rfl rfl Tryz.underlying27 rfl (by kernel_rfl) (row_of_cells 4 _ rfl (by intro i hi; rcases i with _ | _ | _ | _ | _ | i; (go_simp); (go_simp); (go_simp); (go_simp); (go_simp); exact absurd hi (by omega))) ⟨by rw [EV.out]; rfl, below_byR⟩
        · have EV := Lib.hid hv
          clear hv
          go_wp2_with fail
          refine (gcut_v _ _ _ _ _ _ _ _ _ _ _ _ _ _ _ _ _ ECT.out _).mono ?_; rintro e w6 ⟨rfl, hb6⟩; have z_w6 := hb6.size; (try simp at z_w6); obtain ⟨y_w6_0_0, c_w6_0_0, f_w6_0_0, r_w6_0_0, t_w6_0_0, p_w6_0_0⟩ := bq hb6 (w.heap.size); obtain ⟨y_w6_0_1, c_w6_0_1, f_w6_0_1, r_w6_0_1, t_w6_0_1, p_w6_0_1⟩ := bq hb6 (w.heap.size + 1); obtain ⟨y_w6_0_2, c_w6_0_2, f_w6_0_2, r_w6_0_2, t_w6_0_2, p_w6_0_2⟩ := bq hb6 (w.heap.size + 1 + 1)
          go_wp2_with fail
          exact bodyPost_row_t 5 #[.int .i64 q1, .int .i64 q2, .int .i64 q3, .int .i64 q4, .int .i64 q5] (.int .i64 0) rfl rfl rfl rfl Tryz.underlying27 rfl (by kernel_rfl) (row_of_cells 4 _ rfl (by intro i hi; rcases i with _ | _ | _ | _ | _ | i; (go_simp); (go_simp); (go_simp); (go_simp); (go_simp); exact absurd hi (by omega))) ⟨by rw [EV.out], below_byR⟩
        · have EV := Lib.hid hv
          clear hv
          have hc0b : (kc == 0) = false := by simp [hc0]
          have hc3b : (kc == 3) = false := by simp [hc3]
          go_wp2_with fail
          refine (gcut_v _ _ _ _ _ _ _ _ _ _ _ _ _ _ _ _ _ ECT.out _).mono ?_; rintro e w6 ⟨rfl, hb6⟩; have z_w6 := hb6.size; (try simp at z_w6); obtain ⟨y_w6_0_0, c_w6_0_0, f_w6_0_0, r_w6_0_0, t_w6_0_0, p_w6_0_0⟩ := bq hb6 (w.heap.size); obtain ⟨y_w6_0_1, c_w6_0_1, f_w6_0_1, r_w6_0_1, t_w6_0_1, p_w6_0_1⟩ := bq hb6 (w.heap.size + 1); obtain ⟨y_w6_0_2, c_w6_0_2, f_w6_0_2, r_w6_0_2, t_w6_0_2, p_w6_0_2⟩ := bq hb6 (w.heap.size + 1 + 1)
          go_wp2_with fail
          exact bodyPost_row_t 5 #[.int .i64 x, .int .i64 y, .int .i64 a, .int .i64 b, .int .i64 d] (.int .i64 0) rfl rfl rfl rfl Tryz.underlying27 rfl (by kernel_rfl) (row_of_cells 4 _ rfl (by intro i hi; rcases i with _ | _ | _ | _ | _ | i; (go_simp); (go_simp); (go_simp); (go_simp); (go_simp); exact absurd hi (by omega))) ⟨by rw [EV.out], below_byR⟩
        · have EV := Lib.hid hv
          clear hv
          have hr0b : (kr == 0) = false := by simp [hr0]
          have hr3b : (kr == 3) = false := by simp [hr3]
          go_wp2_with fail
          exact bodyPost_row_t 5 #[.int .i64 x, .int .i64 y, .int .i64 a, .int .i64 b, .int .i64 d] (.int .i64 0) rfl rfl rfl rfl Tryz.underlying27 rfl (by kernel_rfl) (row_of_cells 4 _ rfl (by intro i hi; rcases i with _ | _ | _ | _ | _ | i; (go_simp); (go_simp); (go_simp); (go_simp); (go_simp); exact absurd hi (by omega))) ⟨by rw [EV.out], below_byR⟩
      · subst k0; subst k3
        have EV := Lib.hid hv
        clear hv UH
        go_wp2_with fail
        refine (gfuse_v _ _ _ _ _ _ _ _ _ _ _ _ _ _ _ _ EF.out _).mono ?_; rintro e w4 ⟨rfl, hb4⟩; have z_w4 := hb4.size; (try simp at z_w4); obtain ⟨y_w4_0_0, c_w4_0_0, f_w4_0_0, r_w4_0_0, t_w4_0_0, p_w4_0_0⟩ := bq hb4 (w.heap.size); obtain ⟨y_w4_0_1, c_w4_0_1, f_w4_0_1, r_w4_0_1, t_w4_0_1, p_w4_0_1⟩ := bq hb4 (w.heap.size + 1); obtain ⟨y_w4_0_2, c_w4_0_2, f_w4_0_2, r_w4_0_2, t_w4_0_2, p_w4_0_2⟩ := bq hb4 (w.heap.size + 1 + 1)
        go_wp2_with fail
        exact bodyPost_row_t 5 #[.int .i64 0, .int .i64 0, .int .i64 0, .int .i64 0, .int .i64 0] (.int .i64 3) rfl rfl rfl rfl Tryz.underlying27 rfl (by kernel_rfl) (row_of_cells 4 _ rfl (by intro i hi; rcases i with _ | _ | _ | _ | _ | i; (go_simp); (go_simp); (go_simp); (go_simp); (go_simp); exact absurd hi (by omega))) ⟨by rw [EV.out]; rfl, below_byR⟩
      · subst k0; subst k3
        have EU := Lib.hid hv
        clear hv UH
        go_wp2_with fail
        refine (gfuse_v _ _ _ _ _ _ _ _ _ _ _ _ _ _ _ _ EF.out _).mono ?_; rintro e w4 ⟨rfl, hb4⟩; have z_w4 := hb4.size; (try simp at z_w4); obtain ⟨y_w4_0_0, c_w4_0_0, f_w4_0_0, r_w4_0_0, t_w4_0_0, p_w4_0_0⟩ := bq hb4 (w.heap.size); obtain ⟨y_w4_0_1, c_w4_0_1, f_w4_0_1, r_w4_0_1, t_w4_0_1, p_w4_0_1⟩ := bq hb4 (w.heap.size + 1); obtain ⟨y_w4_0_2, c_w4_0_2, f_w4_0_2, r_w4_0_2, t_w4_0_2, p_w4_0_2⟩ := bq hb4 (w.heap.size + 1 + 1)
        obtain ⟨v5, hv5⟩ : ∃ v5, v5 = ((((((w4).setCell ⟨w.heap.size, 0, none⟩ (.int .i64 fx)).setCell ⟨w.heap.size, 1, none⟩ (.int .i64 fy)).setCell ⟨w.heap.size, 2, none⟩ (.int .i64 fa)).setCell ⟨w.heap.size, 3, none⟩ (.int .i64 fb)).setCell ⟨w.heap.size, 4, none⟩ (.int .i64 fd)).alloc (Obj.cells #[.int .i64 fx, .int .i64 fy, .int .i64 fa, .int .i64 fb, .int .i64 fd] 27) := ⟨_, rfl⟩
        go_wp2_with fail
        rw [← hv5]
        have Z0 : Hid (Blk v5 w.heap.size #[.int .i64 fx, .int .i64 fy, .int .i64 fa, .int .i64 fb, .int .i64 fd] 27) := by rw [hv5]; exact (((((((Y0.out.keep hb4).setCell_same 0 _).setCell_same 1 _).setCell_same 2 _).setCell_same 3 _).setCell_same 4 _).of_eq rfl).alloc _
        have Z1 : Hid (Blk v5 (w.heap.size + 1) #[.int .i64 x', .int .i64 y', .int .i64 a', .int .i64 b', .int .i64 d'] 27) := by rw [hv5]; exact (((((((Y1.out.keep hb4).setCell_other (a := ⟨w.heap.size, 0, none⟩) (by simp only; omega) _).setCell_other (a := ⟨w.heap.size, 1, none⟩) (by simp only; omega) _).setCell_other (a := ⟨w.heap.size, 2, none⟩) (by simp only; omega) _).setCell_other (a := ⟨w.heap.size, 3, none⟩) (by simp only; omega) _).setCell_other (a := ⟨w.heap.size, 4, none⟩) (by simp only; omega) _)).alloc _
        have Z2 : Hid (Blk v5 (w.heap.size + 1 + 1) #[.int .i64 0, .int .i64 0, .int .i64 0, .int .i64 0, .int .i64 0] 27) := by rw [hv5]; exact (((((((Y2.out.keep hb4).setCell_other (a := ⟨w.heap.size, 0, none⟩) (by simp only; omega) _).setCell_other (a := ⟨w.heap.size, 1, none⟩) (by simp only; omega) _).setCell_other (a := ⟨w.heap.size, 2, none⟩) (by simp only; omega) _).setCell_other (a := ⟨w.heap.size, 3, none⟩) (by simp only; omega) _).setCell_other (a := ⟨w.heap.size, 4, none⟩) (by simp only; omega) _)).alloc _
        have HB5 : Hid (Below w.heap.size w v5) := by rw [hv5]; exact (show Below _ _ _ from below_byR)
        clear z_w4 y_w4_0_0 c_w4_0_0 f_w4_0_0 r_w4_0_0 t_w4_0_0 p_w4_0_0 y_w4_0_1 c_w4_0_1 f_w4_0_1 r_w4_0_1 t_w4_0_1 p_w4_0_1 y_w4_0_2 c_w4_0_2 f_w4_0_2 r_w4_0_2 t_w4_0_2 p_w4_0_2
        clear hbw hb4 y0 c0 f0 y1 c1 f1 y2 c2 f2 y3 c3 f3 hv5 Y0 Y1 Y2
        obtain ⟨y0, c0, f0, -⟩ := hb_facts Z0.out
        obtain ⟨y1, c1, f1, -⟩ := hb_facts Z1.out
        obtain ⟨y2, c2, f2, -⟩ := hb_facts Z2.out
        have hbw := HB5.out
        have bs5 := hbw.size
        obtain ⟨⟨s1, s2, s3, s4, s5, s6⟩, kr, hrg⟩ : ∃ o k, ringE ⟨fx, fy, fa, fb, fd⟩ ⟨x', y', a', b', d'⟩ lo hi = (o, k) := ⟨_, _, rfl⟩
        obtain ⟨⟨q1, q2, q3, q4, q5⟩, kc, hct⟩ : ∃ o k, gcutE ⟨fx, fy, fa, fb, fd⟩ ⟨s1, s2, s3, s4, s5, s6⟩ = (o, k) := ⟨_, _, rfl⟩
        have BC := updB_cases _ _ _ lo hi _ kr kc hrg hct
        rw [← EU.out] at BC
        have ERG := Lib.hid hrg
        have ECT := Lib.hid hct
        clear hrg hct EU
        refine (ring_v _ _ _ _ _ _ _ _ _ _ _ _ _ _ _ _ _ _ _ ERG.out _).mono ?_; rintro e w6 ⟨rfl, hb6⟩; have z_w6 := hb6.size; (try simp at z_w6); obtain ⟨y_w6_0_0, c_w6_0_0, f_w6_0_0, r_w6_0_0, t_w6_0_0, p_w6_0_0⟩ := bq hb6 (w.heap.size); obtain ⟨y_w6_0_1, c_w6_0_1, f_w6_0_1, r_w6_0_1, t_w6_0_1, p_w6_0_1⟩ := bq hb6 (w.heap.size + 1); obtain ⟨y_w6_0_2, c_w6_0_2, f_w6_0_2, r_w6_0_2, t_w6_0_2, p_w6_0_2⟩ := bq hb6 (w.heap.size + 1 + 1)
        rcases BC with ⟨rfl, hv⟩ | ⟨rfl, rfl, hv⟩ | ⟨rfl, rfl, hv⟩ | ⟨rfl, hc0, hc3, hv⟩ | ⟨hr0, hr3, hv⟩
        · have EV := Lib.hid hv
          clear hv
          go_wp2_with fail
          exact bodyPost_row_t 5 #[.int .i64 0, .int .i64 0, .int .i64 0, .int .i64 0, .int .i64 0] (.int .i64 3) rfl rfl rfl rfl Tryz.underlying27 rfl (by kernel_rfl) (row_of_cells 4 _ rfl (by intro i hi; rcases i with _ | _ | _ | _ | _ | i; (go_simp); (go_simp); (go_simp); (go_simp); (go_simp); exact absurd hi (by omega))) ⟨by rw [EV.out]; rfl, below_byR⟩
        · have EV := Lib.hid hv
          clear hv
          go_wp2_with fail
          refine (gcut_v _ _ _ _ _ _ _ _ _ _ _ _ _ _ _ _ _ ECT.out _).mono ?_; rintro e w7 ⟨rfl, hb7⟩; have z_w7 := hb7.size; (try simp at z_w7); obtain ⟨y_w7_0_0, c_w7_0_0, f_w7_0_0, r_w7_0_0, t_w7_0_0, p_w7_0_0⟩ := bq hb7 (w.heap.size); obtain ⟨y_w7_0_1, c_w7_0_1, f_w7_0_1, r_w7_0_1, t_w7_0_1, p_w7_0_1⟩ := bq hb7 (w.heap.size + 1); obtain ⟨y_w7_0_2, c_w7_0_2, f_w7_0_2, r_w7_0_2, t_w7_0_2, p_w7_0_2⟩ := bq hb7 (w.heap.size + 1 + 1)
          go_wp2_with fail
          exact bodyPost_row_t 5 #[.int .i64 0, .int .i64 0, .int .i64 0, .int .i64 0, .int .i64 0] (.int .i64 3) rfl rfl rfl rfl Tryz.underlying27 rfl (by kernel_rfl) (row_of_cells 4 _ rfl (by intro i hi; rcases i with _ | _ | _ | _ | _ | i; (go_simp); (go_simp); (go_simp); (go_simp); (go_simp); exact absurd hi (by omega))) ⟨by rw [EV.out]; rfl, below_byR⟩
        · have EV := Lib.hid hv
          clear hv
          go_wp2_with fail
          refine (gcut_v _ _ _ _ _ _ _ _ _ _ _ _ _ _ _ _ _ ECT.out _).mono ?_; rintro e w7 ⟨rfl, hb7⟩; have z_w7 := hb7.size; (try simp at z_w7); obtain ⟨y_w7_0_0, c_w7_0_0, f_w7_0_0, r_w7_0_0, t_w7_0_0, p_w7_0_0⟩ := bq hb7 (w.heap.size); obtain ⟨y_w7_0_1, c_w7_0_1, f_w7_0_1, r_w7_0_1, t_w7_0_1, p_w7_0_1⟩ := bq hb7 (w.heap.size + 1); obtain ⟨y_w7_0_2, c_w7_0_2, f_w7_0_2, r_w7_0_2, t_w7_0_2, p_w7_0_2⟩ := bq hb7 (w.heap.size + 1 + 1)
          go_wp2_with fail
          exact bodyPost_row_t 5 #[.int .i64 q1, .int .i64 q2, .int .i64 q3, .int .i64 q4, .int .i64 q5] (.int .i64 0) rfl rfl rfl rfl Tryz.underlying27 rfl (by kernel_rfl) (row_of_cells 4 _ rfl (by intro i hi; rcases i with _ | _ | _ | _ | _ | i; (go_simp); (go_simp); (go_simp); (go_simp); (go_simp); exact absurd hi (by omega))) ⟨by rw [EV.out], below_byR⟩
        · have EV := Lib.hid hv
          clear hv
          have hc0b : (kc == 0) = false := by simp [hc0]
          have hc3b : (kc == 3) = false := by simp [hc3]
          go_wp2_with fail
          refine (gcut_v _ _ _ _ _ _ _ _ _ _ _ _ _ _ _ _ _ ECT.out _).mono ?_; rintro e w7 ⟨rfl, hb7⟩; have z_w7 := hb7.size; (try simp at z_w7); obtain ⟨y_w7_0_0, c_w7_0_0, f_w7_0_0, r_w7_0_0, t_w7_0_0, p_w7_0_0⟩ := bq hb7 (w.heap.size); obtain ⟨y_w7_0_1, c_w7_0_1, f_w7_0_1, r_w7_0_1, t_w7_0_1, p_w7_0_1⟩ := bq hb7 (w.heap.size + 1); obtain ⟨y_w7_0_2, c_w7_0_2, f_w7_0_2, r_w7_0_2, t_w7_0_2, p_w7_0_2⟩ := bq hb7 (w.heap.size + 1 + 1)
          go_wp2_with fail
          exact bodyPost_row_t 5 #[.int .i64 fx, .int .i64 fy, .int .i64 fa, .int .i64 fb, .int .i64 fd] (.int .i64 0) rfl rfl rfl rfl Tryz.underlying27 rfl (by kernel_rfl) (row_of_cells 4 _ rfl (by intro i hi; rcases i with _ | _ | _ | _ | _ | i; (go_simp); (go_simp); (go_simp); (go_simp); (go_simp); exact absurd hi (by omega))) ⟨by rw [EV.out], below_byR⟩
        · have EV := Lib.hid hv
          clear hv
          have hr0b : (kr == 0) = false := by simp [hr0]
          have hr3b : (kr == 3) = false := by simp [hr3]
          go_wp2_with fail
          exact bodyPost_row_t 5 #[.int .i64 fx, .int .i64 fy, .int .i64 fa, .int .i64 fb, .int .i64 fd] (.int .i64 0) rfl rfl rfl rfl Tryz.underlying27 rfl (by kernel_rfl) (row_of_cells 4 _ rfl (by intro i hi; rcases i with _ | _ | _ | _ | _ | i; (go_simp); (go_simp); (go_simp); (go_simp); (go_simp); exact absurd hi (by omega))) ⟨by rw [EV.out], below_byR⟩
theorem upd_v (x y a b d x' y' a' b' d' lo hi o1 o2 o3 o4 o5 k : Int) (h : updE ⟨x, y, a, b, d⟩ ⟨x', y', a', b', d'⟩ lo hi = (⟨o1, o2, o3, o4, o5⟩, k)) (w : World) :
    Calls Tryz.prog 21 #[elC x y a b d, elC x' y' a' b' d', .int .i64 lo, .int .i64 hi] w fun e w' => e = .returned (.tuple #[elC o1 o2 o3 o4 o5, .int .i64 k]) ∧ Below w.heap.size w w' := by
  have := upd_c x y a b d x' y' a' b' d' lo hi w
  rw [h] at this; exact this
end Go.Proofs.YtilginoibhfeiaaGreat
namespace Go.Proofs.YtilginoibhfeiaaGreat

end Go.Proofs.YtilginoibhfeiaaGreat
namespace Go.Proofs.YtilginoibhfeiaaGreat

end Go.Proofs.YtilginoibhfeiaaGreat
