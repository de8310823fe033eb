/- golden.found where there is nothing more. golden.Cut; the walk of GoldenCuts. (Printed by tools/h6.py.) GoldenCuts: for every input the law returns true; each argument reads behind the call as it read before. No condition. -/
import Derived.Test.YtjfphfnfbgmlfaaHA
import Derived.Test.YtjfphfnfbgmlfaaFe
namespace Go.Proofs.Ytjfphfnfbgmlfaa
open Go.RowKit

theorem own_cap {w : World} {base n g cap : Nat} {e : TypeId} {size : Nat} {xs : List Value} (h : w.ownsRow base e size (.slice (some ⟨g, 0, none⟩) n cap) n xs) : n ≤ cap := by
  rcases h.2 with ⟨h, -⟩ | ⟨g', cap', cur, h, -, -, h3, -⟩
  · cases h
  · injection h with _ _ h; subst h; exact h3
/-- append of nothing, where there is room. -/
theorem wpList_append_none {P : Program} (w : World) {ops : Array Oper} {rest : List Oper} {o : Oper} {a : Act} {Q : Exit → Act → World → Prop} (hgd : o.guard = none) (s x : Operand) (t : TypeId)
    (ho : o.op = .call { callee := .builtin .append, args := #[s, x], argTypes := #[t, t] }) (e : TypeId) (i : TypeInfo) (ht : P.underlying t = some (.slice e)) (hi : P.info? e = some i)
    (g n cap : Nat) (hn : n ≤ cap) (hs : a.eval s = .slice (some ⟨g, 0, none⟩) n cap) (hx : a.eval x = .slice none 0 0)
    (h : wpList P ops Q rest (a.put o.dst (.slice (some ⟨g, 0, none⟩) n cap)) w) : wpList P ops Q (o :: rest) a w :=
  wpList_plain hgd fun _ hK => by
    have hr : (Builtin.append_ #[t, t] o.type #[.slice (some ⟨g, 0, none⟩) n cap, .slice none 0 0]).run P w = .ok (.slice (some ⟨g, 0, none⟩) n cap) w := by
      simp [Builtin.append_, run_underlying ht, sizeOf, typeInfo, hi, Builtin.lenOf, Builtin.firstCells, hn, storeCells]
    unfold Oper.wp execOp
    simp only [ho, resolve, invoke, builtin, Sem.run_bind, Sem.run_pure, Result.andThen_ok, List.map_toArray, List.map_cons, List.map_nil, hs, hx, hr]
    exact hK _ _ h
set_option maxRecDepth 100000 in
set_option maxHeartbeats 8000000 in
theorem found0_c (x y a b d : Int) (fn : FuncId) (caps : Array Value) (O : Int → El × Int) (w : World) (hfn : ∀ args w, Sem.run Try.prog (callFunc fn args) w = .ok (.enter fn args) w)
    (hO : ∀ (k : Int) (w' : World), 0 ≤ k → k ≤ 34 → Below w.heap.size w w' → Calls Try.prog fn (#[.int .i64 k] ++ caps) w' fun e w'' => e = .returned (.tuple #[elV (O k).1, .int .i64 (O k).2]) ∧ Below w'.heap.size w' w'') :
    Calls Try.prog 56 #[elC x y a b d, .func (.func fn) #[] caps, .slice none 0 0] w fun e w' => e = .returned (.tuple #[elV (foundE ⟨x, y, a, b, d⟩ O []).1, .int .i64 (foundE ⟨x, y, a, b, d⟩ O []).2]) ∧ Below w.heap.size w w' := by
  have HO := Lib.hid hO
  clear hO
  obtain ⟨i0, hi, hz0, hz1, hz2⟩ := info_parts infoEl
  go_enter Try.func56, Try.ntmps56
  go_wp2_with fail
  obtain ⟨W1, hW1⟩ : ∃ W1, W1 = (((w.alloc (Obj.cells #[.int .i64 x, .int .i64 y, .int .i64 a, .int .i64 b, .int .i64 d] 27)).alloc (Obj.cells #[.func (.func fn) #[] caps] 89)).alloc (Obj.cells #[.int .i64 0, .int .i64 0, .int .i64 0, .int .i64 0, .int .i64 0] 27)).alloc (Obj.cells #[.bool false] 4) := ⟨_, rfl⟩
  rw [← hW1]
  have hI : FAsk w x y a b d fn caps O [] W1 := by
    rw [hW1]
    refine ⟨(show Below _ _ _ from (by repeat (first | with_reducible exact Below.refl _ _ | with_reducible exact Below_of_hid (by assumption) | with_reducible refine Below.drew ?_ | with_reducible refine below_drewN ?_ _ | (with_reducible refine Below_putRow ?_ ?hB _ _; case hB => (first | omega | (simp; done) | (simp; omega))) | (with_reducible refine Below.alloc ?_ ?hB _; case hB => (first | omega | (simp; done) | (simp; omega))) | (with_reducible refine Below.setCell ?_ ?hB _; case hB => (first | omega | (simp; done) | (simp; omega))) | (with_reducible refine Below.trans ?_ (Below.mono (by assumption) ?hB); case hB => (first | omega | (simp; done) | (simp; omega)))))), ?_, ?_, ?_, ?_⟩
    · exact (((Blk.new _ _ _).alloc _).alloc _).alloc _
    · exact ((Blk.new' _ _ _ (by simp)).alloc _).alloc _
    · exact (Blk.new' _ _ _ (by simp)).alloc _
    · exact Blk.new' _ _ _ (by simp)
  have hsz : w.heap.size ≤ W1.heap.size := hI.1.size
  clear hW1
  have M := Lib.hid (best_c 80 #[.pointer (some ⟨w.heap.size + 1, 0, none⟩), .pointer (some ⟨w.heap.size + 1 + 1 + 1, 0, none⟩)] (ovV O) (FAsk w x y a b d fn caps O) W1 (by intro args w; rfl)
    (fun l w1 w2 hs h => ⟨Below.side (Nat.le_refl _) h.1 hs hsz, h.2.1.side hs (by decide) (by decide), h.2.2.1.side hs (by decide) (by decide), h.2.2.2.1.side hs (by decide) (by decide), h.2.2.2.2.side hs (by decide) (by decide)⟩)
    (fun l k w1 _ h0 h1 h => fask_cl w x y a b d fn caps O hfn HO.out l k w1 h0 h1 h) hI)
  obtain ⟨hgi, -⟩ := gfin_inv (ovV O)
  have hfb := hgi.best
  have hfr := hgi.rng
  have EV : Hid (foundE ⟨x, y, a, b, d⟩ O [] = if emptyB O (gfin (ovV O)).asked then (El.zero, 3) else ((cands ⟨x, y, a, b, d⟩ O []).foldl pick ⟨x, y, a, b, d⟩, 0)) := rfl
  have EC : Hid (cands ⟨x, y, a, b, d⟩ O [] = (⟨x, y, a, b, d⟩ :: if (gfin (ovV O)).ok then [(O (gfin (ovV O)).w).1] else []) ++ []) := rfl
  generalize gfin (ovV O) = s at M hfb hfr EV EC
  obtain ⟨asked, gw, gn, gok⟩ := s
  simp only at M hfb hfr EV EC
  clear hgi hI hsz
  obtain ⟨em, hem⟩ : ∃ em, emptyB O asked = em := ⟨_, rfl⟩
  rw [hem] at EV
  refine M.out.mono ?_; rintro e w1 ⟨rfl, ⟨hb, b3, b4, b6, b8⟩, hsz⟩
  rw [hem] at b8
  clear M hem
  obtain ⟨y3, c3, f3, -⟩ := hb_facts b3
  obtain ⟨y4, c4, f4, -⟩ := hb_facts b4
  obtain ⟨y6, c6, f6, -⟩ := hb_facts b6
  obtain ⟨y8, c8, f8, -⟩ := hb_facts b8
  cases em with
  | true =>
    go_wp2_with fail
    exact bodyPost_row_t 5 #[.int .i64 0, .int .i64 0, .int .i64 0, .int .i64 0, .int .i64 0] (.int .i64 3) rfl rfl rfl rfl Try.underlying27 rfl (by kernel_rfl) (row_of_cells 4 _ rfl (by intro i hi; rcases i with _ | _ | _ | _ | _ | i; (go_simp); (go_simp); (go_simp); (go_simp); (go_simp); exact absurd hi (by omega))) ⟨by rw [EV.out]; rfl, (by repeat (first | with_reducible exact Below.refl _ _ | with_reducible exact Below_of_hid (by assumption) | with_reducible refine Below.drew ?_ | with_reducible refine below_drewN ?_ _ | (with_reducible refine Below_putRow ?_ ?hB _ _; case hB => (first | omega | (simp; done) | (simp; omega))) | (with_reducible refine Below.alloc ?_ ?hB _; case hB => (first | omega | (simp; done) | (simp; omega))) | (with_reducible refine Below.setCell ?_ ?hB _; case hB => (first | omega | (simp; done) | (simp; omega))) | (with_reducible refine Below.trans ?_ (Below.mono (by assumption) ?hB); case hB => (first | omega | (simp; done) | (simp; omega)))))⟩
  | false =>
    have hbe : gok = true → 0 ≤ gw ∧ gw ≤ 34 := fun h => hfr _ (hfb h).1
    -- TAIL
    cases gok with
    | false =>
      go_wp2_with (at_builtin; refine wpList_append_none _ rfl _ _ 117 rfl 27 i0 Try.underlying117 hi w1.heap.size _ _ (Nat.le_refl _) rfl rfl ?_)
      obtain ⟨w5, hw5⟩ : ∃ w5, w5 = (w1.alloc (Obj.cells #[.int .i64 x, .int .i64 y, .int .i64 a, .int .i64 b, .int .i64 d] 27)).alloc (Obj.cells #[.int .i64 x, .int .i64 y, .int .i64 a, .int .i64 b, .int .i64 d] 27) := ⟨_, rfl⟩
      rw [← hw5]
      have hown : w5.ownsRow w.heap.size 27 5 (.slice (some ⟨w1.heap.size, 0, none⟩) 1 1) 1 (elc ⟨x, y, a, b, d⟩) := by rw [hw5]; exact own_of ((Blk.new w1 _ _).alloc _) (by have := hb.size; omega)
      have BO : Blk w5 (w1.heap.size + 1) #[.int .i64 x, .int .i64 y, .int .i64 a, .int .i64 b, .int .i64 d] 27 := by rw [hw5]; exact Blk.new' _ _ _ (by simp)
      have B6 : Blk w5 (w.heap.size + 1 + 1) #[.int .i64 0, .int .i64 0, .int .i64 0, .int .i64 0, .int .i64 0] 27 := by rw [hw5]; exact (b6.alloc _).alloc _
      have hb5 : Below w.heap.size w w5 := by rw [hw5]; exact (hb.alloc hb.size _).alloc (by have := hb.size; simp; omega) _
      have zz := y6
      clear hw5 b3 b4 b6 b8 y3 c3 f3 y4 c4 f4 y6 c6 f6 y8 c8 f8
      generalize hg3 : w1.heap.size = g3 at hown BO zz ⊢
      clear hg3
      have zq : w.heap.size + 1 + 1 < g3 + 1 := by omega
      clear zz
      have hne0 : ¬ g3 = g3 + 1 := by omega
      generalize g3 + 1 = go at BO zq hne0 ⊢
      obtain ⟨cur, hcur, hcs, htake⟩ := own_cur hown
      have hX : ∀ k e, ([⟨x, y, a, b, d⟩] : List El)[k]? = some e → ∀ j, j < 5 → cur[k * 5 + j]? = (elc e)[j]? := cells_at [⟨x, y, a, b, d⟩] cur htake
      have hne := hne0
      have HG := Lib.hid hcur
      have HBO := Lib.hid BO
      have HB6 := Lib.hid B6
      have HB := Lib.hid hb5
      have zs := hb5.size
      have HX := Lib.hid hX
      clear hown htake hcur BO B6 hb5 hcs hX hfb hfr hbe
      go_wp2_with fail
      go_loopw [44] (fun ti wr => ∃ (k : Nat) (o : El), k ≤ 1 ∧ ti = .int .i64 k ∧ o = (([⟨x, y, a, b, d⟩] : List El).take k).foldl pick ⟨x, y, a, b, d⟩ ∧ Hid (Blk wr (go) #[.int .i64 o.x, .int .i64 o.y, .int .i64 o.a, .int .i64 o.b, .int .i64 o.d] 27) ∧ Hid (Blk wr g3 cur 27) ∧ Hid (Blk wr (w.heap.size + 1 + 1) #[.int .i64 0, .int .i64 0, .int .i64 0, .int .i64 0, .int .i64 0] 27) ∧ Hid (Below w.heap.size w wr)) (fun ti _ => 1 - (intOf ti).toNat)
      case atStart => exact ⟨0, ⟨x, y, a, b, d⟩, by omega, rfl, rfl, HBO.out, HG.out, HB6.out, HB.out⟩
      case round =>
        obtain ⟨k, ⟨qx, qy, qa, qb, qd⟩, hk, rfl, hq, RO, RG, R6, RB⟩ := hrel
        simp only at RO
        have HQ0 := Lib.hid hq
        clear HBO HG HB6 HB
        have hbr := RB.out
        have zr := hbr.size
        by_cases hlt : k < 1
        · obtain ⟨⟨ex, ey, ea, eb, ed⟩, he⟩ : ∃ e, ([⟨x, y, a, b, d⟩] : List El)[k]? = some e := ⟨_, List.getElem?_eq_getElem (by simpa using hlt)⟩
          have m0 : wr.cell? ⟨g3, k * 5, none⟩ = some (.int .i64 ex) := (RG.out.at (k * 5 + 0)).trans (HX.out k _ he 0 (by decide))
          have m1 : wr.cell? ⟨g3, k * 5 + 1, none⟩ = some (.int .i64 ey) := (RG.out.at (k * 5 + 1)).trans (HX.out k _ he 1 (by decide))
          have m2 : wr.cell? ⟨g3, k * 5 + 2, none⟩ = some (.int .i64 ea) := (RG.out.at (k * 5 + 2)).trans (HX.out k _ he 2 (by decide))
          have m3 : wr.cell? ⟨g3, k * 5 + 3, none⟩ = some (.int .i64 eb) := (RG.out.at (k * 5 + 3)).trans (HX.out k _ he 3 (by decide))
          have m4 : wr.cell? ⟨g3, k * 5 + 4, none⟩ = some (.int .i64 ed) := (RG.out.at (k * 5 + 4)).trans (HX.out k _ he 4 (by decide))
          have hpk := pick_next ([⟨x, y, a, b, d⟩] : List El) k ⟨x, y, a, b, d⟩ _ he
          rw [← hq] at hpk
          have k1 : (k : Int) < 1 := by omega
          have k2 : (0 : Int) ≤ k := by omega
          obtain ⟨t1, ht1⟩ : ∃ t, El.tr ⟨ex, ey, ea, eb, ed⟩ = t := ⟨_, rfl⟩
          obtain ⟨t2, ht2⟩ : ∃ t, El.tr ⟨qx, qy, qa, qb, qd⟩ = t := ⟨_, rfl⟩
          have T1 := Lib.hid ht1
          have T2 := Lib.hid ht2
          rw [show pick ⟨qx, qy, qa, qb, qd⟩ ⟨ex, ey, ea, eb, ed⟩ = if El.tr ⟨ex, ey, ea, eb, ed⟩ < El.tr ⟨qx, qy, qa, qb, qd⟩ then ⟨ex, ey, ea, eb, ed⟩ else ⟨qx, qy, qa, qb, qd⟩ from rfl, ht1, ht2] at hpk
          have HPK := Lib.hid hpk
          clear hpk he ht1 ht2 hq
          go_wp2_with fail
          obtain ⟨w6, hw6⟩ : ∃ w6, w6 = wr.alloc (Obj.cells #[.int .i64 ex, .int .i64 ey, .int .i64 ea, .int .i64 eb, .int .i64 ed] 27) := ⟨_, rfl⟩
          rw [← hw6]
          have SX : Hid (Blk w6 wr.heap.size #[.int .i64 ex, .int .i64 ey, .int .i64 ea, .int .i64 eb, .int .i64 ed] 27) := by rw [hw6]; exact Blk.new _ _ _
          have SO : Hid (Blk w6 (go) #[.int .i64 qx, .int .i64 qy, .int .i64 qa, .int .i64 qb, .int .i64 qd] 27) := by rw [hw6]; exact RO.out.alloc _
          have SG : Hid (Blk w6 g3 cur 27) := by rw [hw6]; exact RG.out.alloc _
          have S6 : Hid (Blk w6 (w.heap.size + 1 + 1) #[.int .i64 0, .int .i64 0, .int .i64 0, .int .i64 0, .int .i64 0] 27) := by rw [hw6]; exact R6.out.alloc _
          have SB : Hid (Below w.heap.size w w6) := by rw [hw6]; exact hbr.alloc zr _
          have zgo := RO.out.lt
          have zg6 := R6.out.lt
          clear hw6 m0 m1 m2 m3 m4 RO RG R6 RB hbr
          have c0 := cell_regrown (SX.out.cell (i := 0) rfl)
          have d0 := cell_regrown (SO.out.cell (i := 0) rfl)
          have c1 := cell_regrown (SX.out.cell (i := 1) rfl)
          have d1 := cell_regrown (SO.out.cell (i := 1) rfl)
          have c2 := cell_regrown (SX.out.cell (i := 2) rfl)
          have d2 := cell_regrown (SO.out.cell (i := 2) rfl)
          have c3 := cell_regrown (SX.out.cell (i := 3) rfl)
          have d3 := cell_regrown (SO.out.cell (i := 3) rfl)
          have c4 := cell_regrown (SX.out.cell (i := 4) rfl)
          have d4 := cell_regrown (SO.out.cell (i := 4) rfl)
          refine wp_region_quiet_below (by kernel_rfl) (by kernel_rfl) ?_
          repeat (go_big_quiet_step (exact Calls.regrown_of (trace_v _ _ _ _ _ _ (by first | with_reducible exact T1.out | with_reducible exact T2.out) _)))
          refine wpQuiet_nil ?_
          intro w7 hwq
          have hb7 := below_of_regrown hwq
          clear hwq c0 c1 c2 c3 c4 d0 d1 d2 d3 d4
          have UX := SX.out.keep hb7
          have UO := SO.out.keep hb7
          have UG := SG.out.keep hb7
          have U6 := S6.out.keep hb7
          have UB := SB.out.trans (hb7.mono SB.out.size)
          obtain ⟨vy1, vc1, vf1, -⟩ := hb_facts UX
          obtain ⟨vy2, vc2, vf2, -⟩ := hb_facts UO
          clear SX SO SG S6 SB hb7
          by_cases ht : t1 < t2
          · go_wp2_with fail
            go_roundw
            case rel =>
              refine ⟨k + 1, ⟨ex, ey, ea, eb, ed⟩, by omega, by go_num, by rw [HPK.out, if_pos ht], ?_, ?_, ?_, ?_⟩
              · exact ((((UO.setCell_same 0 _).setCell_same 1 _).setCell_same 2 _).setCell_same 3 _).setCell_same 4 _
              · exact (((((UG.setCell_other (a := ⟨go, 0, none⟩) (hne) _).setCell_other (a := ⟨go, 1, none⟩) (hne) _).setCell_other (a := ⟨go, 2, none⟩) (hne) _).setCell_other (a := ⟨go, 3, none⟩) (hne) _).setCell_other (a := ⟨go, 4, none⟩) (hne) _)
              · exact (((((U6.setCell_other (a := ⟨go, 0, none⟩) (by simp only; omega) _).setCell_other (a := ⟨go, 1, none⟩) (by simp only; omega) _).setCell_other (a := ⟨go, 2, none⟩) (by simp only; omega) _).setCell_other (a := ⟨go, 3, none⟩) (by simp only; omega) _).setCell_other (a := ⟨go, 4, none⟩) (by simp only; omega) _)
              · exact (show Below _ _ _ from (by repeat (first | with_reducible exact Below.refl _ _ | with_reducible exact Below_of_hid (by assumption) | with_reducible refine Below.drew ?_ | with_reducible refine below_drewN ?_ _ | (with_reducible refine Below_putRow ?_ ?hB _ _; case hB => (first | omega | (simp; done) | (simp; omega))) | (with_reducible refine Below.alloc ?_ ?hB _; case hB => (first | omega | (simp; done) | (simp; omega))) | (with_reducible refine Below.setCell ?_ ?hB _; case hB => (first | omega | (simp; done) | (simp; omega))) | (with_reducible refine Below.trans ?_ (Below.mono (by assumption) ?hB); case hB => (first | omega | (simp; done) | (simp; omega))))))
            case measure => simp [intOf]; omega
          · go_wp2_with fail
            go_roundw
            case rel => exact ⟨k + 1, ⟨qx, qy, qa, qb, qd⟩, by omega, by go_num, by rw [HPK.out, if_neg ht], UO, UG, U6, UB⟩
            case measure => simp [intOf]; omega
        · obtain rfl : k = 1 := by omega
          have hF : Hid (foundE ⟨x, y, a, b, d⟩ O [] = (⟨qx, qy, qa, qb, qd⟩, 0)) := by show _ = _; rw [EV.out, EC.out, HQ0.out]; rfl
          obtain ⟨vy1, vc1, vf1, -⟩ := hb_facts RO.out
          obtain ⟨vy2, vc2, vf2, -⟩ := hb_facts R6.out
          clear EV EC hq
          go_wp2_with fail
          exact bodyPost_row_t 5 #[.int .i64 qx, .int .i64 qy, .int .i64 qa, .int .i64 qb, .int .i64 qd] (.int .i64 0) rfl rfl rfl rfl Try.underlying27 rfl (by kernel_rfl) (row_of_cells 4 _ rfl (by intro i hi; rcases i with _ | _ | _ | _ | _ | i; (go_simp); (go_simp); (go_simp); (go_simp); (go_simp); exact absurd hi (by omega))) ⟨by rw [hF.out], (by repeat (first | with_reducible exact Below.refl _ _ | with_reducible exact Below_of_hid (by assumption) | with_reducible refine Below.drew ?_ | with_reducible refine below_drewN ?_ _ | (with_reducible refine Below_putRow ?_ ?hB _ _; case hB => (first | omega | (simp; done) | (simp; omega))) | (with_reducible refine Below.alloc ?_ ?hB _; case hB => (first | omega | (simp; done) | (simp; omega))) | (with_reducible refine Below.setCell ?_ ?hB _; case hB => (first | omega | (simp; done) | (simp; omega))) | (with_reducible refine Below.trans ?_ (Below.mono (by assumption) ?hB); case hB => (first | omega | (simp; done) | (simp; omega)))))⟩
    | true =>
      obtain ⟨h0, h1⟩ := hbe rfl
      obtain ⟨⟨ox, oy, oa, ob, od⟩, r, ho⟩ : ∃ o r, O gw = (o, r) := ⟨_, _, rfl⟩
      have HQ := HO.out gw (w1.alloc (Obj.cells #[.int .i64 x, .int .i64 y, .int .i64 a, .int .i64 b, .int .i64 d] 27)) h0 h1 (hb.alloc hb.size _)
      rw [ho] at HQ EC
      -- S11
      have HQ2 := Lib.hid HQ
      clear HQ ho
      go_wp2_with fail
      -- S13
      refine HQ2.out.mono ?_; rintro e w2 ⟨rfl, hb2⟩
      -- S14
      have zw2 := hb2.size
      simp at zw2
      have BL2 := (Blk.new w1 #[.int .i64 x, .int .i64 y, .int .i64 a, .int .i64 b, .int .i64 d] 27).keep hb2
      have b32 := (b3.alloc (Obj.cells #[.int .i64 x, .int .i64 y, .int .i64 a, .int .i64 b, .int .i64 d] 27)).keep hb2
      have b62 := (b6.alloc (Obj.cells #[.int .i64 x, .int .i64 y, .int .i64 a, .int .i64 b, .int .i64 d] 27)).keep hb2
      have hbw2 := (hb.alloc hb.size (Obj.cells #[.int .i64 x, .int .i64 y, .int .i64 a, .int .i64 b, .int .i64 d] 27)).trans (hb2.mono (by have := hb.size; simp; omega))
      have zb := hb.size
      have zz6 := y6
      clear hb2 b3 b4 b6 b8 y3 c3 f3 y4 c4 f4 y6 c6 f6 y8 c8 f8 hb
      obtain ⟨y3, c3, f3, -⟩ := hb_facts b32
      -- S15
      go_wp2_with (at_builtin; refine wpList_append_own _ rfl _ _ 117 rfl w.heap.size 27 i0 (.agg #[.int .i64 0, .int .i64 0, .int .i64 0, .int .i64 0, .int .i64 0]) 5 40 Try.underlying117 hi hz0 hz1 hz2 rfl (by decide) _ 1 _ rfl (own_of ((BL2.alloc _).alloc _) (by omega)) ⟨w2.heap.size + 1, 0, none⟩ 1 1 (elc ⟨ox, oy, oa, ob, od⟩) rfl rfl (elc_news (Blk.new' _ _ _ (by simp))) (elc_one _) (by unfold maxLen; omega) (by omega) (by simp; omega) ?_)
      -- S12
      intro v4 w3 hown1 hgrow1 _
      obtain ⟨g4, cap4, rfl⟩ := own_form hown1 (by omega)
      have b33 := ((b32.alloc _).alloc _).grown hgrow1 (by simp [Value.ownBlock]; omega)
      have b63 := ((b62.alloc _).alloc _).grown hgrow1 (by simp [Value.ownBlock]; omega)
      have hb3 := Below.grown (Nat.le_refl _) ((hbw2.alloc hbw2.size _).alloc (by have := hbw2.size; simp; omega) _) hgrow1 (fun g hg => by simp [Value.ownBlock] at hg; omega)
      have zg4 := (hown1.lt g4 (by simp [Value.ownBlock])).2
      have zl4 := (hown1.lt g4 (by simp [Value.ownBlock])).1
      have hcap4 := own_cap hown1
      clear hgrow1 b32 b62 hbw2 y3 c3 f3
      obtain ⟨cur4, hcur4, hcs4, -⟩ := own_cur hown1
      have n36 := blk_ne hcur4 b63 (by intro h; rw [h] at hcs4; simp at hcs4)
      clear hcur4 hcs4
      obtain ⟨y3, c3, f3, -⟩ := hb_facts b33
      go_wp2_with (at_builtin; refine wpList_append_none _ rfl _ _ 117 rfl 27 i0 Try.underlying117 hi g4 _ _ (hcap4) rfl rfl ?_)
      -- S16
      obtain ⟨w5, hw5⟩ : ∃ w5, w5 = w3.alloc (Obj.cells #[.int .i64 x, .int .i64 y, .int .i64 a, .int .i64 b, .int .i64 d] 27) := ⟨_, rfl⟩
      rw [← hw5]
      have hown : w5.ownsRow w.heap.size 27 5 (.slice (some ⟨g4, 0, none⟩) 2 cap4) 2 (elc ⟨x, y, a, b, d⟩ ++ elc ⟨ox, oy, oa, ob, od⟩) := by rw [hw5]; exact hown1.alloc _
      have BO : Blk w5 w3.heap.size #[.int .i64 x, .int .i64 y, .int .i64 a, .int .i64 b, .int .i64 d] 27 := by rw [hw5]; exact Blk.new _ _ _
      have B6 : Blk w5 (w.heap.size + 1 + 1) #[.int .i64 0, .int .i64 0, .int .i64 0, .int .i64 0, .int .i64 0] 27 := by rw [hw5]; exact b63.alloc _
      have hb5 : Below w.heap.size w w5 := by rw [hw5]; exact hb3.alloc hb3.size _
      have zr3 := hb3.size
      have zz := b63.lt
      clear hw5 b33 b63 y3 c3 f3 hb3 hown1 n36 zg4 zl4 BL2 zw2 zz6 zb HQ2 zr3
      -- S17
      clear hcap4
      generalize g4 = g3 at hown ⊢
      have zq : w.heap.size + 1 + 1 < w3.heap.size := by omega
      clear zz
      generalize hgo : w3.heap.size = go at BO zq ⊢
      clear hgo
      obtain ⟨cur, hcur, hcs, htake⟩ := own_cur hown
      have hX : ∀ k e, ([⟨x, y, a, b, d⟩, ⟨ox, oy, oa, ob, od⟩] : List El)[k]? = some e → ∀ j, j < 5 → cur[k * 5 + j]? = (elc e)[j]? := cells_at [⟨x, y, a, b, d⟩, ⟨ox, oy, oa, ob, od⟩] cur htake
      have hne := blk_ne hcur BO (by intro h; rw [h] at hcs; simp at hcs)
      have HG := Lib.hid hcur
      have HBO := Lib.hid BO
      have HB6 := Lib.hid B6
      have HB := Lib.hid hb5
      have zs := hb5.size
      have HX := Lib.hid hX
      clear hown htake hcur BO B6 hb5 hcs hX hfb hfr hbe
      go_wp2_with fail
      go_loopw [44] (fun ti wr => ∃ (k : Nat) (o : El), k ≤ 2 ∧ ti = .int .i64 k ∧ o = (([⟨x, y, a, b, d⟩, ⟨ox, oy, oa, ob, od⟩] : List El).take k).foldl pick ⟨x, y, a, b, d⟩ ∧ Hid (Blk wr (go) #[.int .i64 o.x, .int .i64 o.y, .int .i64 o.a, .int .i64 o.b, .int .i64 o.d] 27) ∧ Hid (Blk wr g3 cur 27) ∧ Hid (Blk wr (w.heap.size + 1 + 1) #[.int .i64 0, .int .i64 0, .int .i64 0, .int .i64 0, .int .i64 0] 27) ∧ Hid (Below w.heap.size w wr)) (fun ti _ => 2 - (intOf ti).toNat)
      case atStart => exact ⟨0, ⟨x, y, a, b, d⟩, by omega, rfl, rfl, HBO.out, HG.out, HB6.out, HB.out⟩
      case round =>
        obtain ⟨k, ⟨qx, qy, qa, qb, qd⟩, hk, rfl, hq, RO, RG, R6, RB⟩ := hrel
        simp only at RO
        have HQ0 := Lib.hid hq
        clear HBO HG HB6 HB
        have hbr := RB.out
        have zr := hbr.size
        by_cases hlt : k < 2
        · obtain ⟨⟨ex, ey, ea, eb, ed⟩, he⟩ : ∃ e, ([⟨x, y, a, b, d⟩, ⟨ox, oy, oa, ob, od⟩] : List El)[k]? = some e := ⟨_, List.getElem?_eq_getElem (by simpa using hlt)⟩
          have m0 : wr.cell? ⟨g3, k * 5, none⟩ = some (.int .i64 ex) := (RG.out.at (k * 5 + 0)).trans (HX.out k _ he 0 (by decide))
          have m1 : wr.cell? ⟨g3, k * 5 + 1, none⟩ = some (.int .i64 ey) := (RG.out.at (k * 5 + 1)).trans (HX.out k _ he 1 (by decide))
          have m2 : wr.cell? ⟨g3, k * 5 + 2, none⟩ = some (.int .i64 ea) := (RG.out.at (k * 5 + 2)).trans (HX.out k _ he 2 (by decide))
          have m3 : wr.cell? ⟨g3, k * 5 + 3, none⟩ = some (.int .i64 eb) := (RG.out.at (k * 5 + 3)).trans (HX.out k _ he 3 (by decide))
          have m4 : wr.cell? ⟨g3, k * 5 + 4, none⟩ = some (.int .i64 ed) := (RG.out.at (k * 5 + 4)).trans (HX.out k _ he 4 (by decide))
          have hpk := pick_next ([⟨x, y, a, b, d⟩, ⟨ox, oy, oa, ob, od⟩] : List El) k ⟨x, y, a, b, d⟩ _ he
          rw [← hq] at hpk
          have k1 : (k : Int) < 2 := by omega
          have k2 : (0 : Int) ≤ k := by omega
          obtain ⟨t1, ht1⟩ : ∃ t, El.tr ⟨ex, ey, ea, eb, ed⟩ = t := ⟨_, rfl⟩
          obtain ⟨t2, ht2⟩ : ∃ t, El.tr ⟨qx, qy, qa, qb, qd⟩ = t := ⟨_, rfl⟩
          have T1 := Lib.hid ht1
          have T2 := Lib.hid ht2
          rw [show pick ⟨qx, qy, qa, qb, qd⟩ ⟨ex, ey, ea, eb, ed⟩ = if El.tr ⟨ex, ey, ea, eb, ed⟩ < El.tr ⟨qx, qy, qa, qb, qd⟩ then ⟨ex, ey, ea, eb, ed⟩ else ⟨qx, qy, qa, qb, qd⟩ from rfl, ht1, ht2] at hpk
          have HPK := Lib.hid hpk
          clear hpk he ht1 ht2 hq
          go_wp2_with fail
          obtain ⟨w6, hw6⟩ : ∃ w6, w6 = wr.alloc (Obj.cells #[.int .i64 ex, .int .i64 ey, .int .i64 ea, .int .i64 eb, .int .i64 ed] 27) := ⟨_, rfl⟩
          rw [← hw6]
          have SX : Hid (Blk w6 wr.heap.size #[.int .i64 ex, .int .i64 ey, .int .i64 ea, .int .i64 eb, .int .i64 ed] 27) := by rw [hw6]; exact Blk.new _ _ _
          have SO : Hid (Blk w6 (go) #[.int .i64 qx, .int .i64 qy, .int .i64 qa, .int .i64 qb, .int .i64 qd] 27) := by rw [hw6]; exact RO.out.alloc _
          have SG : Hid (Blk w6 g3 cur 27) := by rw [hw6]; exact RG.out.alloc _
          have S6 : Hid (Blk w6 (w.heap.size + 1 + 1) #[.int .i64 0, .int .i64 0, .int .i64 0, .int .i64 0, .int .i64 0] 27) := by rw [hw6]; exact R6.out.alloc _
          have SB : Hid (Below w.heap.size w w6) := by rw [hw6]; exact hbr.alloc zr _
          have zgo := RO.out.lt
          have zg6 := R6.out.lt
          clear hw6 m0 m1 m2 m3 m4 RO RG R6 RB hbr
          have c0 := cell_regrown (SX.out.cell (i := 0) rfl)
          have d0 := cell_regrown (SO.out.cell (i := 0) rfl)
          have c1 := cell_regrown (SX.out.cell (i := 1) rfl)
          have d1 := cell_regrown (SO.out.cell (i := 1) rfl)
          have c2 := cell_regrown (SX.out.cell (i := 2) rfl)
          have d2 := cell_regrown (SO.out.cell (i := 2) rfl)
          have c3 := cell_regrown (SX.out.cell (i := 3) rfl)
          have d3 := cell_regrown (SO.out.cell (i := 3) rfl)
          have c4 := cell_regrown (SX.out.cell (i := 4) rfl)
          have d4 := cell_regrown (SO.out.cell (i := 4) rfl)
          refine wp_region_quiet_below (by kernel_rfl) (by kernel_rfl) ?_
          repeat (go_big_quiet_step (exact Calls.regrown_of (trace_v _ _ _ _ _ _ (by first | with_reducible exact T1.out | with_reducible exact T2.out) _)))
          refine wpQuiet_nil ?_
          intro w7 hwq
          have hb7 := below_of_regrown hwq
          clear hwq c0 c1 c2 c3 c4 d0 d1 d2 d3 d4
          have UX := SX.out.keep hb7
          have UO := SO.out.keep hb7
          have UG := SG.out.keep hb7
          have U6 := S6.out.keep hb7
          have UB := SB.out.trans (hb7.mono SB.out.size)
          obtain ⟨vy1, vc1, vf1, -⟩ := hb_facts UX
          obtain ⟨vy2, vc2, vf2, -⟩ := hb_facts UO
          clear SX SO SG S6 SB hb7
          by_cases ht : t1 < t2
          · go_wp2_with fail
            go_roundw
            case rel =>
              refine ⟨k + 1, ⟨ex, ey, ea, eb, ed⟩, by omega, by go_num, by rw [HPK.out, if_pos ht], ?_, ?_, ?_, ?_⟩
              · exact ((((UO.setCell_same 0 _).setCell_same 1 _).setCell_same 2 _).setCell_same 3 _).setCell_same 4 _
              · exact (((((UG.setCell_other (a := ⟨go, 0, none⟩) (hne) _).setCell_other (a := ⟨go, 1, none⟩) (hne) _).setCell_other (a := ⟨go, 2, none⟩) (hne) _).setCell_other (a := ⟨go, 3, none⟩) (hne) _).setCell_other (a := ⟨go, 4, none⟩) (hne) _)
              · exact (((((U6.setCell_other (a := ⟨go, 0, none⟩) (by simp only; omega) _).setCell_other (a := ⟨go, 1, none⟩) (by simp only; omega) _).setCell_other (a := ⟨go, 2, none⟩) (by simp only; omega) _).setCell_other (a := ⟨go, 3, none⟩) (by simp only; omega) _).setCell_other (a := ⟨go, 4, none⟩) (by simp only; omega) _)
              · exact (show Below _ _ _ from (by repeat (first | with_reducible exact Below.refl _ _ | with_reducible exact Below_of_hid (by assumption) | with_reducible refine Below.drew ?_ | with_reducible refine below_drewN ?_ _ | (with_reducible refine Below_putRow ?_ ?hB _ _; case hB => (first | omega | (simp; done) | (simp; omega))) | (with_reducible refine Below.alloc ?_ ?hB _; case hB => (first | omega | (simp; done) | (simp; omega))) | (with_reducible refine Below.setCell ?_ ?hB _; case hB => (first | omega | (simp; done) | (simp; omega))) | (with_reducible refine Below.trans ?_ (Below.mono (by assumption) ?hB); case hB => (first | omega | (simp; done) | (simp; omega))))))
            case measure => simp [intOf]; omega
          · go_wp2_with fail
            go_roundw
            case rel => exact ⟨k + 1, ⟨qx, qy, qa, qb, qd⟩, by omega, by go_num, by rw [HPK.out, if_neg ht], UO, UG, U6, UB⟩
            case measure => simp [intOf]; omega
        · obtain rfl : k = 2 := by omega
          have hF : Hid (foundE ⟨x, y, a, b, d⟩ O [] = (⟨qx, qy, qa, qb, qd⟩, 0)) := by show _ = _; rw [EV.out, EC.out, HQ0.out]; rfl
          obtain ⟨vy1, vc1, vf1, -⟩ := hb_facts RO.out
          obtain ⟨vy2, vc2, vf2, -⟩ := hb_facts R6.out
          clear EV EC hq
          go_wp2_with fail
          exact bodyPost_row_t 5 #[.int .i64 qx, .int .i64 qy, .int .i64 qa, .int .i64 qb, .int .i64 qd] (.int .i64 0) rfl rfl rfl rfl Try.underlying27 rfl (by kernel_rfl) (row_of_cells 4 _ rfl (by intro i hi; rcases i with _ | _ | _ | _ | _ | i; (go_simp); (go_simp); (go_simp); (go_simp); (go_simp); exact absurd hi (by omega))) ⟨by rw [hF.out], (by repeat (first | with_reducible exact Below.refl _ _ | with_reducible exact Below_of_hid (by assumption) | with_reducible refine Below.drew ?_ | with_reducible refine below_drewN ?_ _ | (with_reducible refine Below_putRow ?_ ?hB _ _; case hB => (first | omega | (simp; done) | (simp; omega))) | (with_reducible refine Below.alloc ?_ ?hB _; case hB => (first | omega | (simp; done) | (simp; omega))) | (with_reducible refine Below.setCell ?_ ?hB _; case hB => (first | omega | (simp; done) | (simp; omega))) | (with_reducible refine Below.trans ?_ (Below.mono (by assumption) ?hB); case hB => (first | omega | (simp; done) | (simp; omega)))))⟩
end Go.Proofs.Ytjfphfnfbgmlfaa
namespace Go.Proofs.Ytjfphfnfbgmlfaa
open Go.RowKit

theorem gcut_yes (e : El) (f : St) (he : e.may = true) (hf : f.may = true) : gcutE e f = foundE e (cutE e f) [] := by unfold gcutE; rw [if_pos ⟨he, hf⟩]
theorem gcut_no (e : El) (f : St) (h : e.may = false ∨ f.may = false) : gcutE e f = (El.zero, 1) := by
  unfold gcutE; rw [if_neg]; rintro ⟨h1, h2⟩; rcases h with h | h
  · rw [h1] at h; cases h
  · rw [h2] at h; cases h
set_option maxRecDepth 100000 in
set_option maxHeartbeats 4000000 in
theorem gcut_c (x y a b d s1 s2 s3 s4 s5 s6 : Int) (w : World) :
    Calls Try.prog 32 #[elC x y a b d, stC s1 s2 s3 s4 s5 s6] w fun e w' => e = .returned (.tuple #[elV (gcutE ⟨x, y, a, b, d⟩ ⟨s1, s2, s3, s4, s5, s6⟩).1, .int .i64 (gcutE ⟨x, y, a, b, d⟩ ⟨s1, s2, s3, s4, s5, s6⟩).2]) ∧ Below w.heap.size w w' := by
  cases hm : El.may ⟨x, y, a, b, d⟩ with
  | false =>
    have HM := Lib.hid hm
    have EV := Lib.hid (gcut_no ⟨x, y, a, b, d⟩ ⟨s1, s2, s3, s4, s5, s6⟩ (.inl hm))
    clear hm
    go_enter Try.func32, Try.ntmps32
    go_wp2_with fail
    refine (ellmay_v _ _ _ _ _ _ HM.out _).mono ?_; rintro e w1 ⟨rfl, hb1⟩; have z_w1 := hb1.size; (try simp at z_w1); obtain ⟨y_w1_0_0, c_w1_0_0, f_w1_0_0, r_w1_0_0, t_w1_0_0, p_w1_0_0⟩ := bk hb1 (w.heap.size) (by first | omega | (simp; done) | (simp; omega) | fail); obtain ⟨y_w1_0_1, c_w1_0_1, f_w1_0_1, r_w1_0_1, t_w1_0_1, p_w1_0_1⟩ := bk hb1 (w.heap.size + 1) (by first | omega | (simp; done) | (simp; omega) | fail); obtain ⟨y_w1_0_2, c_w1_0_2, f_w1_0_2, r_w1_0_2, t_w1_0_2, p_w1_0_2⟩ := bk hb1 (w.heap.size + 1 + 1) (by first | omega | (simp; done) | (simp; omega) | fail)
    go_wp2_with fail
    exact bodyPost_row_t 5 #[.int .i64 0, .int .i64 0, .int .i64 0, .int .i64 0, .int .i64 0] (.int .i64 1) rfl rfl rfl rfl Try.underlying27 rfl (by kernel_rfl) (row_of_cells 4 _ rfl (by intro i hi; rcases i with _ | _ | _ | _ | _ | i; (go_simp); (go_simp); (go_simp); (go_simp); (go_simp); exact absurd hi (by omega))) ⟨by rw [EV.out]; rfl, (by repeat (first | with_reducible exact Below.refl _ _ | with_reducible exact Below_of_hid (by assumption) | with_reducible refine Below.drew ?_ | with_reducible refine below_drewN ?_ _ | (with_reducible refine Below_putRow ?_ ?hB _ _; case hB => (first | omega | (simp; done) | (simp; omega))) | (with_reducible refine Below.alloc ?_ ?hB _; case hB => (first | omega | (simp; done) | (simp; omega))) | (with_reducible refine Below.setCell ?_ ?hB _; case hB => (first | omega | (simp; done) | (simp; omega))) | (with_reducible refine Below.trans ?_ (Below.mono (by assumption) ?hB); case hB => (first | omega | (simp; done) | (simp; omega)))))⟩
  | true =>
    have HM := Lib.hid hm
    cases hf : St.may ⟨s1, s2, s3, s4, s5, s6⟩ with
    | false =>
      have HF := Lib.hid hf
      have EV := Lib.hid (gcut_no ⟨x, y, a, b, d⟩ ⟨s1, s2, s3, s4, s5, s6⟩ (.inr hf))
      clear hm hf
      go_enter Try.func32, Try.ntmps32
      go_wp2_with fail
      refine (ellmay_v _ _ _ _ _ _ HM.out _).mono ?_; rintro e w1 ⟨rfl, hb1⟩; have z_w1 := hb1.size; (try simp at z_w1); obtain ⟨y_w1_0_0, c_w1_0_0, f_w1_0_0, r_w1_0_0, t_w1_0_0, p_w1_0_0⟩ := bk hb1 (w.heap.size) (by first | omega | (simp; done) | (simp; omega) | fail); obtain ⟨y_w1_0_1, c_w1_0_1, f_w1_0_1, r_w1_0_1, t_w1_0_1, p_w1_0_1⟩ := bk hb1 (w.heap.size + 1) (by first | omega | (simp; done) | (simp; omega) | fail); obtain ⟨y_w1_0_2, c_w1_0_2, f_w1_0_2, r_w1_0_2, t_w1_0_2, p_w1_0_2⟩ := bk hb1 (w.heap.size + 1 + 1) (by first | omega | (simp; done) | (simp; omega) | fail)
      go_wp2_with fail
      refine (mayStrip_v _ _ _ _ _ _ _ HF.out _).mono ?_; rintro e w2 ⟨rfl, hb2⟩; have z_w2 := hb2.size; (try simp at z_w2); obtain ⟨y_w2_0_0, c_w2_0_0, f_w2_0_0, r_w2_0_0, t_w2_0_0, p_w2_0_0⟩ := bk hb2 (w.heap.size) (by first | omega | (simp; done) | (simp; omega) | fail); obtain ⟨y_w2_0_1, c_w2_0_1, f_w2_0_1, r_w2_0_1, t_w2_0_1, p_w2_0_1⟩ := bk hb2 (w.heap.size + 1) (by first | omega | (simp; done) | (simp; omega) | fail); obtain ⟨y_w2_0_2, c_w2_0_2, f_w2_0_2, r_w2_0_2, t_w2_0_2, p_w2_0_2⟩ := bk hb2 (w.heap.size + 1 + 1) (by first | omega | (simp; done) | (simp; omega) | fail)
      go_wp2_with fail
      exact bodyPost_row_t 5 #[.int .i64 0, .int .i64 0, .int .i64 0, .int .i64 0, .int .i64 0] (.int .i64 1) rfl rfl rfl rfl Try.underlying27 rfl (by kernel_rfl) (row_of_cells 4 _ rfl (by intro i hi; rcases i with _ | _ | _ | _ | _ | i; (go_simp); (go_simp); (go_simp); (go_simp); (go_simp); exact absurd hi (by omega))) ⟨by rw [EV.out]; rfl, (by repeat (first | with_reducible exact Below.refl _ _ | with_reducible exact Below_of_hid (by assumption) | with_reducible refine Below.drew ?_ | with_reducible refine below_drewN ?_ _ | (with_reducible refine Below_putRow ?_ ?hB _ _; case hB => (first | omega | (simp; done) | (simp; omega))) | (with_reducible refine Below.alloc ?_ ?hB _; case hB => (first | omega | (simp; done) | (simp; omega))) | (with_reducible refine Below.setCell ?_ ?hB _; case hB => (first | omega | (simp; done) | (simp; omega))) | (with_reducible refine Below.trans ?_ (Below.mono (by assumption) ?hB); case hB => (first | omega | (simp; done) | (simp; omega)))))⟩
    | true =>
      have HF := Lib.hid hf
      obtain ⟨⟨ox, oy, oa, ob, od⟩, k, ho⟩ : ∃ o k, foundE ⟨x, y, a, b, d⟩ (cutE ⟨x, y, a, b, d⟩ ⟨s1, s2, s3, s4, s5, s6⟩) [] = (o, k) := ⟨_, _, rfl⟩
      have EV : Hid (gcutE ⟨x, y, a, b, d⟩ ⟨s1, s2, s3, s4, s5, s6⟩ = (⟨ox, oy, oa, ob, od⟩, k)) := by show _ = _; rw [gcut_yes _ _ hm hf, ho]
      have HO := Lib.hid ho
      clear hm hf ho
      go_enter Try.func32, Try.ntmps32
      go_wp2_with fail
      refine (ellmay_v _ _ _ _ _ _ HM.out _).mono ?_; rintro e w1 ⟨rfl, hb1⟩; have z_w1 := hb1.size; (try simp at z_w1); obtain ⟨y_w1_0_0, c_w1_0_0, f_w1_0_0, r_w1_0_0, t_w1_0_0, p_w1_0_0⟩ := bk hb1 (w.heap.size) (by first | omega | (simp; done) | (simp; omega) | fail); obtain ⟨y_w1_0_1, c_w1_0_1, f_w1_0_1, r_w1_0_1, t_w1_0_1, p_w1_0_1⟩ := bk hb1 (w.heap.size + 1) (by first | omega | (simp; done) | (simp; omega) | fail); obtain ⟨y_w1_0_2, c_w1_0_2, f_w1_0_2, r_w1_0_2, t_w1_0_2, p_w1_0_2⟩ := bk hb1 (w.heap.size + 1 + 1) (by first | omega | (simp; done) | (simp; omega) | fail)
      go_wp2_with fail
      refine (mayStrip_v _ _ _ _ _ _ _ HF.out _).mono ?_; rintro e w2 ⟨rfl, hb2⟩; have z_w2 := hb2.size; (try simp at z_w2); obtain ⟨y_w2_0_0, c_w2_0_0, f_w2_0_0, r_w2_0_0, t_w2_0_0, p_w2_0_0⟩ := bk hb2 (w.heap.size) (by first | omega | (simp; done) | (simp; omega) | fail); obtain ⟨y_w2_0_1, c_w2_0_1, f_w2_0_1, r_w2_0_1, t_w2_0_1, p_w2_0_1⟩ := bk hb2 (w.heap.size + 1) (by first | omega | (simp; done) | (simp; omega) | fail); obtain ⟨y_w2_0_2, c_w2_0_2, f_w2_0_2, r_w2_0_2, t_w2_0_2, p_w2_0_2⟩ := bk hb2 (w.heap.size + 1 + 1) (by first | omega | (simp; done) | (simp; omega) | fail)
      have BE := ((((Blk.new w #[.int .i64 x, .int .i64 y, .int .i64 a, .int .i64 b, .int .i64 d] 27).alloc _).alloc _).keep hb1).keep hb2
      have BF := (((Blk.new' (w.alloc _) #[.int .i64 s1, .int .i64 s2, .int .i64 s3, .int .i64 s4, .int .i64 s5, .int .i64 s6] 40 (b := w.heap.size + 1) (by simp)).alloc _).keep hb1).keep hb2
      go_wp2_with fail
      have FC := found0_c x y a b d 60 #[.pointer (some ⟨w.heap.size, 0, none⟩), .pointer (some ⟨w.heap.size + 1, 0, none⟩)] (cutE ⟨x, y, a, b, d⟩ ⟨s1, s2, s3, s4, s5, s6⟩) w2 (by intro args w; rfl)
        (fun k w' _ _ hb => gc1_c x y a b d s1 s2 s3 s4 s5 s6 k _ _ w' (BE.keep hb) (BF.keep hb))
      rw [HO.out] at FC
      clear BE BF
      refine FC.mono ?_; rintro e w3 ⟨rfl, hb3⟩; have z_w3 := hb3.size; (try simp at z_w3); obtain ⟨y_w3_0_0, c_w3_0_0, f_w3_0_0, r_w3_0_0, t_w3_0_0, p_w3_0_0⟩ := bk hb3 (w.heap.size) (by first | omega | (simp; done) | (simp; omega) | fail); obtain ⟨y_w3_0_1, c_w3_0_1, f_w3_0_1, r_w3_0_1, t_w3_0_1, p_w3_0_1⟩ := bk hb3 (w.heap.size + 1) (by first | omega | (simp; done) | (simp; omega) | fail); obtain ⟨y_w3_0_2, c_w3_0_2, f_w3_0_2, r_w3_0_2, t_w3_0_2, p_w3_0_2⟩ := bk hb3 (w.heap.size + 1 + 1) (by first | omega | (simp; done) | (simp; omega) | fail)
      go_wp2_with fail
      exact bodyPost_row_t 5 #[.int .i64 ox, .int .i64 oy, .int .i64 oa, .int .i64 ob, .int .i64 od] (.int .i64 k) rfl rfl rfl rfl Try.underlying27 rfl (by kernel_rfl) (row_of_cells 4 _ rfl (by intro i hi; rcases i with _ | _ | _ | _ | _ | i; (go_simp); (go_simp); (go_simp); (go_simp); (go_simp); exact absurd hi (by omega))) ⟨by rw [EV.out], (by repeat (first | with_reducible exact Below.refl _ _ | with_reducible exact Below_of_hid (by assumption) | with_reducible refine Below.drew ?_ | with_reducible refine below_drewN ?_ _ | (with_reducible refine Below_putRow ?_ ?hB _ _; case hB => (first | omega | (simp; done) | (simp; omega))) | (with_reducible refine Below.alloc ?_ ?hB _; case hB => (first | omega | (simp; done) | (simp; omega))) | (with_reducible refine Below.setCell ?_ ?hB _; case hB => (first | omega | (simp; done) | (simp; omega))) | (with_reducible refine Below.trans ?_ (Below.mono (by assumption) ?hB); case hB => (first | omega | (simp; done) | (simp; omega)))))⟩
theorem gcut_v (x y a b d s1 s2 s3 s4 s5 s6 ox oy oa ob od k : Int) (h : gcutE ⟨x, y, a, b, d⟩ ⟨s1, s2, s3, s4, s5, s6⟩ = (⟨ox, oy, oa, ob, od⟩, k)) (w : World) :
    Calls Try.prog 32 #[elC x y a b d, stC s1 s2 s3 s4 s5 s6] w fun e w' => e = .returned (.tuple #[elC ox oy oa ob od, .int .i64 k]) ∧ Below w.heap.size w w' := by
  have := gcut_c x y a b d s1 s2 s3 s4 s5 s6 w
  rw [h] at this; exact this
/-- What golden.Cut says of an ellipse and a strip that may be. -/
theorem gcuts (e : El) (s : St) (he : e.may = true) (hs : s.may = true) (p q l : Int) (hl : s.hx * (p - s.ox) + s.hy * (q - s.oy) = l) {g : El} {k : Int} (hg : gcutE e s = (g, k)) :
    (k = 3 ∧ ¬ (e.has p q = true ∧ s.lo ≤ l ∧ l ≤ s.hi)) ∨ (k = 0 ∧ (e.has p q = true → s.lo ≤ l → l ≤ s.hi → g.has p q = true) ∧ g.tr ≤ e.tr) := by
  rw [gcut_yes e s he hs] at hg
  rcases found_cases e (cutE e s) [] with ⟨⟨x, h0, h1, h3⟩, h⟩ | ⟨o, h, hc, t1, -, -⟩
  · rw [h] at hg; injection hg with _ hk
    left
    refine ⟨hk.symm, fun hb => ?_⟩
    exact (cut_meets e s x p q l h0 h1 hb.1 hs hl hb.2.1 hb.2.2 (o := (cutE e s x).1) (er := (cutE e s x).2) rfl).1 h3
  · rw [h] at hg; injection hg with hg hk; subst hg
    right
    refine ⟨hk.symm, ?_, t1⟩
    intro a1 a2 a3
    rcases hc with rfl | ⟨x, h0, h1, hx⟩ | hc
    · exact a1
    · exact (cut_meets e s x p q l h0 h1 a1 hs hl a2 a3 hx).2 rfl
    · cases hc
theorem cut_sums (p q a b c d : Int) (h1 : -1073741824 ≤ p ∧ p ≤ 1073741824 ∧ -1073741824 ≤ q ∧ q ≤ 1073741824) (h2 : -4194304 ≤ a ∧ a ≤ 4194304 ∧ -4194304 ≤ b ∧ b ≤ 4194304) (h3 : -16777216 ≤ c ∧ c ≤ 16777216 ∧ -16777216 ≤ d ∧ d ≤ 16777216) :
    (-20000000000000000 ≤ c * (p - a) ∧ c * (p - a) ≤ 20000000000000000) ∧ (-20000000000000000 ≤ d * (q - b) ∧ d * (q - b) ≤ 20000000000000000) := by
  have a1 := mul_rng c (p - a) 16777216 1077936128 (by omega) (by omega) (by omega) (by omega)
  have a2 := mul_rng d (q - b) 16777216 1077936128 (by omega) (by omega) (by omega) (by omega)
  omega
theorem cut_ways (A : Bool) (l lo hi : Int) : A = false ∨ (A = true ∧ l < lo) ∨ (A = true ∧ ¬ l < lo ∧ hi < l) ∨ (A = true ∧ ¬ l < lo ∧ ¬ hi < l) := by
  cases A <;> simp <;> omega
set_option maxRecDepth 100000 in
set_option maxHeartbeats 16000000 in
theorem goldenCuts_c (x y a b d s1 s2 s3 s4 s5 s6 p q : Int) (w : World) :
    Calls Try.prog 12 #[elC x y a b d, stC s1 s2 s3 s4 s5 s6, ptV p q] w fun e w' => e = .returned (.bool true) ∧ Below w.heap.size w w' := by
  obtain ⟨⟨gx, gy, ga, gb, gd⟩, k, hg⟩ : ∃ o k, gcutE ⟨x, y, a, b, d⟩ ⟨s1, s2, s3, s4, s5, s6⟩ = (o, k) := ⟨_, _, rfl⟩
  have HG := Lib.hid hg
  cases hm : El.may ⟨x, y, a, b, d⟩ with
  | false =>
    have HM := Lib.hid hm
    rw [gcut_no _ _ (.inl hm)] at hg
    injection hg with _ hk; subst hk
    clear hm
    go_enter Try.func12, Try.ntmps12
    go_wp2_with fail
    refine (gcut_v _ _ _ _ _ _ _ _ _ _ _ _ _ _ _ _ _ HG.out _).mono ?_; rintro e w1 ⟨rfl, hb1⟩; have z_w1 := hb1.size; (try simp at z_w1); obtain ⟨y_w1_0_0, c_w1_0_0, f_w1_0_0, r_w1_0_0, t_w1_0_0, p_w1_0_0⟩ := bk hb1 (w.heap.size) (by first | omega | (simp; done) | (simp; omega) | fail); obtain ⟨y_w1_0_1, c_w1_0_1, f_w1_0_1, r_w1_0_1, t_w1_0_1, p_w1_0_1⟩ := bk hb1 (w.heap.size + 1) (by first | omega | (simp; done) | (simp; omega) | fail); obtain ⟨y_w1_0_2, c_w1_0_2, f_w1_0_2, r_w1_0_2, t_w1_0_2, p_w1_0_2⟩ := bk hb1 (w.heap.size + 1 + 1) (by first | omega | (simp; done) | (simp; omega) | fail)
    go_wp2_with fail
    refine (ellmay_v _ _ _ _ _ _ HM.out _).mono ?_; rintro e w2 ⟨rfl, hb2⟩; have z_w2 := hb2.size; (try simp at z_w2); obtain ⟨y_w2_0_0, c_w2_0_0, f_w2_0_0, r_w2_0_0, t_w2_0_0, p_w2_0_0⟩ := bk hb2 (w.heap.size) (by first | omega | (simp; done) | (simp; omega) | fail); obtain ⟨y_w2_0_1, c_w2_0_1, f_w2_0_1, r_w2_0_1, t_w2_0_1, p_w2_0_1⟩ := bk hb2 (w.heap.size + 1) (by first | omega | (simp; done) | (simp; omega) | fail); obtain ⟨y_w2_0_2, c_w2_0_2, f_w2_0_2, r_w2_0_2, t_w2_0_2, p_w2_0_2⟩ := bk hb2 (w.heap.size + 1 + 1) (by first | omega | (simp; done) | (simp; omega) | fail)
    go_wp2_with fail
    refine (awake7_c _).mono ?_; rintro e w9 ⟨rfl, hb9⟩
    go_wp2
    go_ret
    exact ⟨rfl, (by repeat (first | with_reducible exact Below.refl _ _ | with_reducible exact Below_of_hid (by assumption) | with_reducible refine Below.drew ?_ | with_reducible refine below_drewN ?_ _ | (with_reducible refine Below_putRow ?_ ?hB _ _; case hB => (first | omega | (simp; done) | (simp; omega))) | (with_reducible refine Below.alloc ?_ ?hB _; case hB => (first | omega | (simp; done) | (simp; omega))) | (with_reducible refine Below.setCell ?_ ?hB _; case hB => (first | omega | (simp; done) | (simp; omega))) | (with_reducible refine Below.trans ?_ (Below.mono (by assumption) ?hB); case hB => (first | omega | (simp; done) | (simp; omega)))))⟩
  | true =>
    have HM := Lib.hid hm
    cases hf : St.may ⟨s1, s2, s3, s4, s5, s6⟩ with
    | false =>
      have HF := Lib.hid hf
      rw [gcut_no _ _ (.inr hf)] at hg
      injection hg with _ hk; subst hk
      clear hm hf
      go_enter Try.func12, Try.ntmps12
      go_wp2_with fail
      refine (gcut_v _ _ _ _ _ _ _ _ _ _ _ _ _ _ _ _ _ HG.out _).mono ?_; rintro e w1 ⟨rfl, hb1⟩; have z_w1 := hb1.size; (try simp at z_w1); obtain ⟨y_w1_0_0, c_w1_0_0, f_w1_0_0, r_w1_0_0, t_w1_0_0, p_w1_0_0⟩ := bk hb1 (w.heap.size) (by first | omega | (simp; done) | (simp; omega) | fail); obtain ⟨y_w1_0_1, c_w1_0_1, f_w1_0_1, r_w1_0_1, t_w1_0_1, p_w1_0_1⟩ := bk hb1 (w.heap.size + 1) (by first | omega | (simp; done) | (simp; omega) | fail); obtain ⟨y_w1_0_2, c_w1_0_2, f_w1_0_2, r_w1_0_2, t_w1_0_2, p_w1_0_2⟩ := bk hb1 (w.heap.size + 1 + 1) (by first | omega | (simp; done) | (simp; omega) | fail)
      go_wp2_with fail
      refine (ellmay_v _ _ _ _ _ _ HM.out _).mono ?_; rintro e w2 ⟨rfl, hb2⟩; have z_w2 := hb2.size; (try simp at z_w2); obtain ⟨y_w2_0_0, c_w2_0_0, f_w2_0_0, r_w2_0_0, t_w2_0_0, p_w2_0_0⟩ := bk hb2 (w.heap.size) (by first | omega | (simp; done) | (simp; omega) | fail); obtain ⟨y_w2_0_1, c_w2_0_1, f_w2_0_1, r_w2_0_1, t_w2_0_1, p_w2_0_1⟩ := bk hb2 (w.heap.size + 1) (by first | omega | (simp; done) | (simp; omega) | fail); obtain ⟨y_w2_0_2, c_w2_0_2, f_w2_0_2, r_w2_0_2, t_w2_0_2, p_w2_0_2⟩ := bk hb2 (w.heap.size + 1 + 1) (by first | omega | (simp; done) | (simp; omega) | fail)
      go_wp2_with fail
      refine (mayStrip_v _ _ _ _ _ _ _ HF.out _).mono ?_; rintro e w3 ⟨rfl, hb3⟩; have z_w3 := hb3.size; (try simp at z_w3); obtain ⟨y_w3_0_0, c_w3_0_0, f_w3_0_0, r_w3_0_0, t_w3_0_0, p_w3_0_0⟩ := bk hb3 (w.heap.size) (by first | omega | (simp; done) | (simp; omega) | fail); obtain ⟨y_w3_0_1, c_w3_0_1, f_w3_0_1, r_w3_0_1, t_w3_0_1, p_w3_0_1⟩ := bk hb3 (w.heap.size + 1) (by first | omega | (simp; done) | (simp; omega) | fail); obtain ⟨y_w3_0_2, c_w3_0_2, f_w3_0_2, r_w3_0_2, t_w3_0_2, p_w3_0_2⟩ := bk hb3 (w.heap.size + 1 + 1) (by first | omega | (simp; done) | (simp; omega) | fail)
      go_wp2_with fail
      refine (awake7_c _).mono ?_; rintro e w9 ⟨rfl, hb9⟩
      go_wp2
      go_ret
      exact ⟨rfl, (by repeat (first | with_reducible exact Below.refl _ _ | with_reducible exact Below_of_hid (by assumption) | with_reducible refine Below.drew ?_ | with_reducible refine below_drewN ?_ _ | (with_reducible refine Below_putRow ?_ ?hB _ _; case hB => (first | omega | (simp; done) | (simp; omega))) | (with_reducible refine Below.alloc ?_ ?hB _; case hB => (first | omega | (simp; done) | (simp; omega))) | (with_reducible refine Below.setCell ?_ ?hB _; case hB => (first | omega | (simp; done) | (simp; omega))) | (with_reducible refine Below.trans ?_ (Below.mono (by assumption) ?hB); case hB => (first | omega | (simp; done) | (simp; omega)))))⟩
    | true =>
      have HF := Lib.hid hf
      have hold := gcuts _ _ hm hf p q _ rfl hg
      have sm := (St.may_iff _).1 hf
      simp only at sm hold
      have SS := fun (h : El.has ⟨x, y, a, b, d⟩ p q = true) => cut_sums p q s1 s2 s3 s4 ((El.has_iff _ _ _).1 h).2.1 sm.1 sm.2.1
      have PB := fun (h : El.has ⟨x, y, a, b, d⟩ p q = true) => ((El.has_iff _ _ _).1 h).2.1
      obtain ⟨P, hP⟩ : ∃ P, p - s1 = P := ⟨_, rfl⟩
      obtain ⟨Q, hQ⟩ : ∃ P, q - s2 = P := ⟨_, rfl⟩
      have QB : El.has ⟨x, y, a, b, d⟩ p q = true → -1077936128 ≤ P ∧ P ≤ 1077936128 ∧ -1077936128 ≤ Q ∧ Q ≤ 1077936128 := by intro h; have := PB h; omega
      rw [hP, hQ] at hold SS
      obtain ⟨M, hM⟩ : ∃ M, s3 * P = M := ⟨_, rfl⟩
      obtain ⟨N, hN⟩ : ∃ M, s4 * Q = M := ⟨_, rfl⟩
      rw [hM, hN] at hold SS
      obtain ⟨L, hL⟩ : ∃ L, M + N = L := ⟨_, rfl⟩
      have LB : El.has ⟨x, y, a, b, d⟩ p q = true → -40000000000000000 ≤ L ∧ L ≤ 40000000000000000 := by intro h; have := SS h; omega
      rw [hL] at hold
      obtain ⟨tg, htg⟩ : ∃ t, El.tr ⟨gx, gy, ga, gb, gd⟩ = t := ⟨_, rfl⟩
      obtain ⟨te, hte⟩ : ∃ t, El.tr ⟨x, y, a, b, d⟩ = t := ⟨_, rfl⟩
      rw [htg, hte] at hold
      have T1 := Lib.hid htg
      have T2 := Lib.hid hte
      obtain ⟨A, hA⟩ : ∃ A, El.has ⟨x, y, a, b, d⟩ p q = A := ⟨_, rfl⟩
      rw [hA] at hold SS PB QB LB
      have ways := cut_ways A L s5 s6
      have HA := Lib.hid hA
      clear hg hm hf htg hte hA sm
      rcases hold with ⟨rfl, hno⟩ | ⟨rfl, hyes, hle⟩
      · rcases ways with rfl | ⟨rfl, v1⟩ | ⟨rfl, v1, v2⟩ | ⟨rfl, v1, v2⟩
        · clear hno
          clear SS PB QB LB
          go_enter Try.func12, Try.ntmps12
          go_wp2_with fail
          refine (gcut_v _ _ _ _ _ _ _ _ _ _ _ _ _ _ _ _ _ HG.out _).mono ?_; rintro e w1 ⟨rfl, hb1⟩; have z_w1 := hb1.size; (try simp at z_w1); obtain ⟨y_w1_0_0, c_w1_0_0, f_w1_0_0, r_w1_0_0, t_w1_0_0, p_w1_0_0⟩ := bk hb1 (w.heap.size) (by first | omega | (simp; done) | (simp; omega) | fail); obtain ⟨y_w1_0_1, c_w1_0_1, f_w1_0_1, r_w1_0_1, t_w1_0_1, p_w1_0_1⟩ := bk hb1 (w.heap.size + 1) (by first | omega | (simp; done) | (simp; omega) | fail); obtain ⟨y_w1_0_2, c_w1_0_2, f_w1_0_2, r_w1_0_2, t_w1_0_2, p_w1_0_2⟩ := bk hb1 (w.heap.size + 1 + 1) (by first | omega | (simp; done) | (simp; omega) | fail)
          go_wp2_with fail
          refine (ellmay_v _ _ _ _ _ _ HM.out _).mono ?_; rintro e w2 ⟨rfl, hb2⟩; have z_w2 := hb2.size; (try simp at z_w2); obtain ⟨y_w2_0_0, c_w2_0_0, f_w2_0_0, r_w2_0_0, t_w2_0_0, p_w2_0_0⟩ := bk hb2 (w.heap.size) (by first | omega | (simp; done) | (simp; omega) | fail); obtain ⟨y_w2_0_1, c_w2_0_1, f_w2_0_1, r_w2_0_1, t_w2_0_1, p_w2_0_1⟩ := bk hb2 (w.heap.size + 1) (by first | omega | (simp; done) | (simp; omega) | fail); obtain ⟨y_w2_0_2, c_w2_0_2, f_w2_0_2, r_w2_0_2, t_w2_0_2, p_w2_0_2⟩ := bk hb2 (w.heap.size + 1 + 1) (by first | omega | (simp; done) | (simp; omega) | fail); obtain ⟨y_w2_1_0, c_w2_1_0, f_w2_1_0, r_w2_1_0, t_w2_1_0, p_w2_1_0⟩ := bk hb2 (w1.heap.size) (by first | omega | (simp; done) | (simp; omega) | fail)
          go_wp2_with fail
          refine (mayStrip_v _ _ _ _ _ _ _ HF.out _).mono ?_; rintro e w3 ⟨rfl, hb3⟩; have z_w3 := hb3.size; (try simp at z_w3); obtain ⟨y_w3_0_0, c_w3_0_0, f_w3_0_0, r_w3_0_0, t_w3_0_0, p_w3_0_0⟩ := bk hb3 (w.heap.size) (by first | omega | (simp; done) | (simp; omega) | fail); obtain ⟨y_w3_0_1, c_w3_0_1, f_w3_0_1, r_w3_0_1, t_w3_0_1, p_w3_0_1⟩ := bk hb3 (w.heap.size + 1) (by first | omega | (simp; done) | (simp; omega) | fail); obtain ⟨y_w3_0_2, c_w3_0_2, f_w3_0_2, r_w3_0_2, t_w3_0_2, p_w3_0_2⟩ := bk hb3 (w.heap.size + 1 + 1) (by first | omega | (simp; done) | (simp; omega) | fail); obtain ⟨y_w3_1_0, c_w3_1_0, f_w3_1_0, r_w3_1_0, t_w3_1_0, p_w3_1_0⟩ := bk hb3 (w1.heap.size) (by first | omega | (simp; done) | (simp; omega) | fail)
          go_wp2_with fail
          refine (ellin_v _ _ _ _ _ _ _ _ HA.out _).mono ?_; rintro e w4 ⟨rfl, hb4⟩; have z_w4 := hb4.size; (try simp at z_w4); obtain ⟨y_w4_0_0, c_w4_0_0, f_w4_0_0, r_w4_0_0, t_w4_0_0, p_w4_0_0⟩ := bk hb4 (w.heap.size) (by first | omega | (simp; done) | (simp; omega) | fail); obtain ⟨y_w4_0_1, c_w4_0_1, f_w4_0_1, r_w4_0_1, t_w4_0_1, p_w4_0_1⟩ := bk hb4 (w.heap.size + 1) (by first | omega | (simp; done) | (simp; omega) | fail); obtain ⟨y_w4_0_2, c_w4_0_2, f_w4_0_2, r_w4_0_2, t_w4_0_2, p_w4_0_2⟩ := bk hb4 (w.heap.size + 1 + 1) (by first | omega | (simp; done) | (simp; omega) | fail); obtain ⟨y_w4_1_0, c_w4_1_0, f_w4_1_0, r_w4_1_0, t_w4_1_0, p_w4_1_0⟩ := bk hb4 (w1.heap.size) (by first | omega | (simp; done) | (simp; omega) | fail)
          go_wp2_with fail
          have c0 := cell_regrown (show w4.cell? ⟨w.heap.size, 0, none⟩ = some (.int .i64 x) from (by go_simp)); have c1 := cell_regrown (show w4.cell? ⟨w.heap.size, 1, none⟩ = some (.int .i64 y) from (by go_simp)); have c2 := cell_regrown (show w4.cell? ⟨w.heap.size, 2, none⟩ = some (.int .i64 a) from (by go_simp)); have c3 := cell_regrown (show w4.cell? ⟨w.heap.size, 3, none⟩ = some (.int .i64 b) from (by go_simp)); have c4 := cell_regrown (show w4.cell? ⟨w.heap.size, 4, none⟩ = some (.int .i64 d) from (by go_simp))
          have g0 := cell_regrown (show w4.cell? ⟨w1.heap.size, 0, none⟩ = some (.int .i64 gx) from (by go_simp)); have g1 := cell_regrown (show w4.cell? ⟨w1.heap.size, 1, none⟩ = some (.int .i64 gy) from (by go_simp)); have g2 := cell_regrown (show w4.cell? ⟨w1.heap.size, 2, none⟩ = some (.int .i64 ga) from (by go_simp)); have g3 := cell_regrown (show w4.cell? ⟨w1.heap.size, 3, none⟩ = some (.int .i64 gb) from (by go_simp)); have g4 := cell_regrown (show w4.cell? ⟨w1.heap.size, 4, none⟩ = some (.int .i64 gd) from (by go_simp))
          refine wp_region_quiet_below (by kernel_rfl) (by kernel_rfl) ?_
          repeat (go_big_quiet_step (first | (go_at_call 31; exact Calls.regrown_of (trace_v _ _ _ _ _ _ (by first | with_reducible exact T1.out | with_reducible exact T2.out) _)) | (go_at_call 30; exact Calls.regrown_of (awake7_c _))))
          refine wpQuiet_nil ?_
          intro wq hwq
          have hbq := below_of_regrown hwq
          clear hwq
          go_wp2
          go_ret
          exact ⟨rfl, (by repeat (first | with_reducible exact Below.refl _ _ | with_reducible exact Below_of_hid (by assumption) | with_reducible refine Below.drew ?_ | with_reducible refine below_drewN ?_ _ | (with_reducible refine Below_putRow ?_ ?hB _ _; case hB => (first | omega | (simp; done) | (simp; omega))) | (with_reducible refine Below.alloc ?_ ?hB _; case hB => (first | omega | (simp; done) | (simp; omega))) | (with_reducible refine Below.setCell ?_ ?hB _; case hB => (first | omega | (simp; done) | (simp; omega))) | (with_reducible refine Below.trans ?_ (Below.mono (by assumption) ?hB); case hB => (first | omega | (simp; done) | (simp; omega)))))⟩
        · clear hno
          obtain ⟨⟨ss1, ss2⟩, ⟨ss3, ss4⟩⟩ := SS rfl
          obtain ⟨pb1, pb2, pb3, pb4⟩ := PB rfl
          obtain ⟨qb1, qb2, qb3, qb4⟩ := QB rfl
          obtain ⟨lb1, lb2⟩ := LB rfl
          clear SS PB QB LB
          go_enter Try.func12, Try.ntmps12
          go_wp2_with fail
          refine (gcut_v _ _ _ _ _ _ _ _ _ _ _ _ _ _ _ _ _ HG.out _).mono ?_; rintro e w1 ⟨rfl, hb1⟩; have z_w1 := hb1.size; (try simp at z_w1); obtain ⟨y_w1_0_0, c_w1_0_0, f_w1_0_0, r_w1_0_0, t_w1_0_0, p_w1_0_0⟩ := bk hb1 (w.heap.size) (by first | omega | (simp; done) | (simp; omega) | fail); obtain ⟨y_w1_0_1, c_w1_0_1, f_w1_0_1, r_w1_0_1, t_w1_0_1, p_w1_0_1⟩ := bk hb1 (w.heap.size + 1) (by first | omega | (simp; done) | (simp; omega) | fail); obtain ⟨y_w1_0_2, c_w1_0_2, f_w1_0_2, r_w1_0_2, t_w1_0_2, p_w1_0_2⟩ := bk hb1 (w.heap.size + 1 + 1) (by first | omega | (simp; done) | (simp; omega) | fail)
          go_wp2_with fail
          refine (ellmay_v _ _ _ _ _ _ HM.out _).mono ?_; rintro e w2 ⟨rfl, hb2⟩; have z_w2 := hb2.size; (try simp at z_w2); obtain ⟨y_w2_0_0, c_w2_0_0, f_w2_0_0, r_w2_0_0, t_w2_0_0, p_w2_0_0⟩ := bk hb2 (w.heap.size) (by first | omega | (simp; done) | (simp; omega) | fail); obtain ⟨y_w2_0_1, c_w2_0_1, f_w2_0_1, r_w2_0_1, t_w2_0_1, p_w2_0_1⟩ := bk hb2 (w.heap.size + 1) (by first | omega | (simp; done) | (simp; omega) | fail); obtain ⟨y_w2_0_2, c_w2_0_2, f_w2_0_2, r_w2_0_2, t_w2_0_2, p_w2_0_2⟩ := bk hb2 (w.heap.size + 1 + 1) (by first | omega | (simp; done) | (simp; omega) | fail); obtain ⟨y_w2_1_0, c_w2_1_0, f_w2_1_0, r_w2_1_0, t_w2_1_0, p_w2_1_0⟩ := bk hb2 (w1.heap.size) (by first | omega | (simp; done) | (simp; omega) | fail)
          go_wp2_with fail
          refine (mayStrip_v _ _ _ _ _ _ _ HF.out _).mono ?_; rintro e w3 ⟨rfl, hb3⟩; have z_w3 := hb3.size; (try simp at z_w3); obtain ⟨y_w3_0_0, c_w3_0_0, f_w3_0_0, r_w3_0_0, t_w3_0_0, p_w3_0_0⟩ := bk hb3 (w.heap.size) (by first | omega | (simp; done) | (simp; omega) | fail); obtain ⟨y_w3_0_1, c_w3_0_1, f_w3_0_1, r_w3_0_1, t_w3_0_1, p_w3_0_1⟩ := bk hb3 (w.heap.size + 1) (by first | omega | (simp; done) | (simp; omega) | fail); obtain ⟨y_w3_0_2, c_w3_0_2, f_w3_0_2, r_w3_0_2, t_w3_0_2, p_w3_0_2⟩ := bk hb3 (w.heap.size + 1 + 1) (by first | omega | (simp; done) | (simp; omega) | fail); obtain ⟨y_w3_1_0, c_w3_1_0, f_w3_1_0, r_w3_1_0, t_w3_1_0, p_w3_1_0⟩ := bk hb3 (w1.heap.size) (by first | omega | (simp; done) | (simp; omega) | fail)
          go_wp2_with fail
          refine (ellin_v _ _ _ _ _ _ _ _ HA.out _).mono ?_; rintro e w4 ⟨rfl, hb4⟩; have z_w4 := hb4.size; (try simp at z_w4); obtain ⟨y_w4_0_0, c_w4_0_0, f_w4_0_0, r_w4_0_0, t_w4_0_0, p_w4_0_0⟩ := bk hb4 (w.heap.size) (by first | omega | (simp; done) | (simp; omega) | fail); obtain ⟨y_w4_0_1, c_w4_0_1, f_w4_0_1, r_w4_0_1, t_w4_0_1, p_w4_0_1⟩ := bk hb4 (w.heap.size + 1) (by first | omega | (simp; done) | (simp; omega) | fail); obtain ⟨y_w4_0_2, c_w4_0_2, f_w4_0_2, r_w4_0_2, t_w4_0_2, p_w4_0_2⟩ := bk hb4 (w.heap.size + 1 + 1) (by first | omega | (simp; done) | (simp; omega) | fail); obtain ⟨y_w4_1_0, c_w4_1_0, f_w4_1_0, r_w4_1_0, t_w4_1_0, p_w4_1_0⟩ := bk hb4 (w1.heap.size) (by first | omega | (simp; done) | (simp; omega) | fail)
          go_wp2_with fail
          have c0 := cell_regrown (show w4.cell? ⟨w.heap.size, 0, none⟩ = some (.int .i64 x) from (by go_simp)); have c1 := cell_regrown (show w4.cell? ⟨w.heap.size, 1, none⟩ = some (.int .i64 y) from (by go_simp)); have c2 := cell_regrown (show w4.cell? ⟨w.heap.size, 2, none⟩ = some (.int .i64 a) from (by go_simp)); have c3 := cell_regrown (show w4.cell? ⟨w.heap.size, 3, none⟩ = some (.int .i64 b) from (by go_simp)); have c4 := cell_regrown (show w4.cell? ⟨w.heap.size, 4, none⟩ = some (.int .i64 d) from (by go_simp))
          have g0 := cell_regrown (show w4.cell? ⟨w1.heap.size, 0, none⟩ = some (.int .i64 gx) from (by go_simp)); have g1 := cell_regrown (show w4.cell? ⟨w1.heap.size, 1, none⟩ = some (.int .i64 gy) from (by go_simp)); have g2 := cell_regrown (show w4.cell? ⟨w1.heap.size, 2, none⟩ = some (.int .i64 ga) from (by go_simp)); have g3 := cell_regrown (show w4.cell? ⟨w1.heap.size, 3, none⟩ = some (.int .i64 gb) from (by go_simp)); have g4 := cell_regrown (show w4.cell? ⟨w1.heap.size, 4, none⟩ = some (.int .i64 gd) from (by go_simp))
          refine wp_region_quiet_below (by kernel_rfl) (by kernel_rfl) ?_
          repeat (go_big_quiet_step (first | (go_at_call 31; exact Calls.regrown_of (trace_v _ _ _ _ _ _ (by first | with_reducible exact T1.out | with_reducible exact T2.out) _)) | (go_at_call 30; exact Calls.regrown_of (awake7_c _))))
          refine wpQuiet_nil ?_
          intro wq hwq
          have hbq := below_of_regrown hwq
          clear hwq
          go_wp2
          go_ret
          exact ⟨rfl, (by repeat (first | with_reducible exact Below.refl _ _ | with_reducible exact Below_of_hid (by assumption) | with_reducible refine Below.drew ?_ | with_reducible refine below_drewN ?_ _ | (with_reducible refine Below_putRow ?_ ?hB _ _; case hB => (first | omega | (simp; done) | (simp; omega))) | (with_reducible refine Below.alloc ?_ ?hB _; case hB => (first | omega | (simp; done) | (simp; omega))) | (with_reducible refine Below.setCell ?_ ?hB _; case hB => (first | omega | (simp; done) | (simp; omega))) | (with_reducible refine Below.trans ?_ (Below.mono (by assumption) ?hB); case hB => (first | omega | (simp; done) | (simp; omega)))))⟩
        · clear hno
          obtain ⟨⟨ss1, ss2⟩, ⟨ss3, ss4⟩⟩ := SS rfl
          obtain ⟨pb1, pb2, pb3, pb4⟩ := PB rfl
          obtain ⟨qb1, qb2, qb3, qb4⟩ := QB rfl
          obtain ⟨lb1, lb2⟩ := LB rfl
          clear SS PB QB LB
          go_enter Try.func12, Try.ntmps12
          go_wp2_with fail
          refine (gcut_v _ _ _ _ _ _ _ _ _ _ _ _ _ _ _ _ _ HG.out _).mono ?_; rintro e w1 ⟨rfl, hb1⟩; have z_w1 := hb1.size; (try simp at z_w1); obtain ⟨y_w1_0_0, c_w1_0_0, f_w1_0_0, r_w1_0_0, t_w1_0_0, p_w1_0_0⟩ := bk hb1 (w.heap.size) (by first | omega | (simp; done) | (simp; omega) | fail); obtain ⟨y_w1_0_1, c_w1_0_1, f_w1_0_1, r_w1_0_1, t_w1_0_1, p_w1_0_1⟩ := bk hb1 (w.heap.size + 1) (by first | omega | (simp; done) | (simp; omega) | fail); obtain ⟨y_w1_0_2, c_w1_0_2, f_w1_0_2, r_w1_0_2, t_w1_0_2, p_w1_0_2⟩ := bk hb1 (w.heap.size + 1 + 1) (by first | omega | (simp; done) | (simp; omega) | fail)
          go_wp2_with fail
          refine (ellmay_v _ _ _ _ _ _ HM.out _).mono ?_; rintro e w2 ⟨rfl, hb2⟩; have z_w2 := hb2.size; (try simp at z_w2); obtain ⟨y_w2_0_0, c_w2_0_0, f_w2_0_0, r_w2_0_0, t_w2_0_0, p_w2_0_0⟩ := bk hb2 (w.heap.size) (by first | omega | (simp; done) | (simp; omega) | fail); obtain ⟨y_w2_0_1, c_w2_0_1, f_w2_0_1, r_w2_0_1, t_w2_0_1, p_w2_0_1⟩ := bk hb2 (w.heap.size + 1) (by first | omega | (simp; done) | (simp; omega) | fail); obtain ⟨y_w2_0_2, c_w2_0_2, f_w2_0_2, r_w2_0_2, t_w2_0_2, p_w2_0_2⟩ := bk hb2 (w.heap.size + 1 + 1) (by first | omega | (simp; done) | (simp; omega) | fail); obtain ⟨y_w2_1_0, c_w2_1_0, f_w2_1_0, r_w2_1_0, t_w2_1_0, p_w2_1_0⟩ := bk hb2 (w1.heap.size) (by first | omega | (simp; done) | (simp; omega) | fail)
          go_wp2_with fail
          refine (mayStrip_v _ _ _ _ _ _ _ HF.out _).mono ?_; rintro e w3 ⟨rfl, hb3⟩; have z_w3 := hb3.size; (try simp at z_w3); obtain ⟨y_w3_0_0, c_w3_0_0, f_w3_0_0, r_w3_0_0, t_w3_0_0, p_w3_0_0⟩ := bk hb3 (w.heap.size) (by first | omega | (simp; done) | (simp; omega) | fail); obtain ⟨y_w3_0_1, c_w3_0_1, f_w3_0_1, r_w3_0_1, t_w3_0_1, p_w3_0_1⟩ := bk hb3 (w.heap.size + 1) (by first | omega | (simp; done) | (simp; omega) | fail); obtain ⟨y_w3_0_2, c_w3_0_2, f_w3_0_2, r_w3_0_2, t_w3_0_2, p_w3_0_2⟩ := bk hb3 (w.heap.size + 1 + 1) (by first | omega | (simp; done) | (simp; omega) | fail); obtain ⟨y_w3_1_0, c_w3_1_0, f_w3_1_0, r_w3_1_0, t_w3_1_0, p_w3_1_0⟩ := bk hb3 (w1.heap.size) (by first | omega | (simp; done) | (simp; omega) | fail)
          go_wp2_with fail
          refine (ellin_v _ _ _ _ _ _ _ _ HA.out _).mono ?_; rintro e w4 ⟨rfl, hb4⟩; have z_w4 := hb4.size; (try simp at z_w4); obtain ⟨y_w4_0_0, c_w4_0_0, f_w4_0_0, r_w4_0_0, t_w4_0_0, p_w4_0_0⟩ := bk hb4 (w.heap.size) (by first | omega | (simp; done) | (simp; omega) | fail); obtain ⟨y_w4_0_1, c_w4_0_1, f_w4_0_1, r_w4_0_1, t_w4_0_1, p_w4_0_1⟩ := bk hb4 (w.heap.size + 1) (by first | omega | (simp; done) | (simp; omega) | fail); obtain ⟨y_w4_0_2, c_w4_0_2, f_w4_0_2, r_w4_0_2, t_w4_0_2, p_w4_0_2⟩ := bk hb4 (w.heap.size + 1 + 1) (by first | omega | (simp; done) | (simp; omega) | fail); obtain ⟨y_w4_1_0, c_w4_1_0, f_w4_1_0, r_w4_1_0, t_w4_1_0, p_w4_1_0⟩ := bk hb4 (w1.heap.size) (by first | omega | (simp; done) | (simp; omega) | fail)
          go_wp2_with fail
          have c0 := cell_regrown (show w4.cell? ⟨w.heap.size, 0, none⟩ = some (.int .i64 x) from (by go_simp)); have c1 := cell_regrown (show w4.cell? ⟨w.heap.size, 1, none⟩ = some (.int .i64 y) from (by go_simp)); have c2 := cell_regrown (show w4.cell? ⟨w.heap.size, 2, none⟩ = some (.int .i64 a) from (by go_simp)); have c3 := cell_regrown (show w4.cell? ⟨w.heap.size, 3, none⟩ = some (.int .i64 b) from (by go_simp)); have c4 := cell_regrown (show w4.cell? ⟨w.heap.size, 4, none⟩ = some (.int .i64 d) from (by go_simp))
          have g0 := cell_regrown (show w4.cell? ⟨w1.heap.size, 0, none⟩ = some (.int .i64 gx) from (by go_simp)); have g1 := cell_regrown (show w4.cell? ⟨w1.heap.size, 1, none⟩ = some (.int .i64 gy) from (by go_simp)); have g2 := cell_regrown (show w4.cell? ⟨w1.heap.size, 2, none⟩ = some (.int .i64 ga) from (by go_simp)); have g3 := cell_regrown (show w4.cell? ⟨w1.heap.size, 3, none⟩ = some (.int .i64 gb) from (by go_simp)); have g4 := cell_regrown (show w4.cell? ⟨w1.heap.size, 4, none⟩ = some (.int .i64 gd) from (by go_simp))
          refine wp_region_quiet_below (by kernel_rfl) (by kernel_rfl) ?_
          repeat (go_big_quiet_step (first | (go_at_call 31; exact Calls.regrown_of (trace_v _ _ _ _ _ _ (by first | with_reducible exact T1.out | with_reducible exact T2.out) _)) | (go_at_call 30; exact Calls.regrown_of (awake7_c _))))
          refine wpQuiet_nil ?_
          intro wq hwq
          have hbq := below_of_regrown hwq
          clear hwq
          go_wp2
          go_ret
          exact ⟨rfl, (by repeat (first | with_reducible exact Below.refl _ _ | with_reducible exact Below_of_hid (by assumption) | with_reducible refine Below.drew ?_ | with_reducible refine below_drewN ?_ _ | (with_reducible refine Below_putRow ?_ ?hB _ _; case hB => (first | omega | (simp; done) | (simp; omega))) | (with_reducible refine Below.alloc ?_ ?hB _; case hB => (first | omega | (simp; done) | (simp; omega))) | (with_reducible refine Below.setCell ?_ ?hB _; case hB => (first | omega | (simp; done) | (simp; omega))) | (with_reducible refine Below.trans ?_ (Below.mono (by assumption) ?hB); case hB => (first | omega | (simp; done) | (simp; omega)))))⟩
        · exact absurd ⟨rfl, by omega, by omega⟩ hno
      · have hd : decide (tg ≤ te) = true := decide_eq_true hle
        rcases ways with rfl | ⟨rfl, v1⟩ | ⟨rfl, v1, v2⟩ | ⟨rfl, v1, v2⟩
        · have k0 : (0 : Int) = 0 := rfl
          clear k0
          clear SS PB QB LB hyes
          go_enter Try.func12, Try.ntmps12
          go_wp2_with fail
          refine (gcut_v _ _ _ _ _ _ _ _ _ _ _ _ _ _ _ _ _ HG.out _).mono ?_; rintro e w1 ⟨rfl, hb1⟩; have z_w1 := hb1.size; (try simp at z_w1); obtain ⟨y_w1_0_0, c_w1_0_0, f_w1_0_0, r_w1_0_0, t_w1_0_0, p_w1_0_0⟩ := bk hb1 (w.heap.size) (by first | omega | (simp; done) | (simp; omega) | fail); obtain ⟨y_w1_0_1, c_w1_0_1, f_w1_0_1, r_w1_0_1, t_w1_0_1, p_w1_0_1⟩ := bk hb1 (w.heap.size + 1) (by first | omega | (simp; done) | (simp; omega) | fail); obtain ⟨y_w1_0_2, c_w1_0_2, f_w1_0_2, r_w1_0_2, t_w1_0_2, p_w1_0_2⟩ := bk hb1 (w.heap.size + 1 + 1) (by first | omega | (simp; done) | (simp; omega) | fail)
          go_wp2_with fail
          refine (ellmay_v _ _ _ _ _ _ HM.out _).mono ?_; rintro e w2 ⟨rfl, hb2⟩; have z_w2 := hb2.size; (try simp at z_w2); obtain ⟨y_w2_0_0, c_w2_0_0, f_w2_0_0, r_w2_0_0, t_w2_0_0, p_w2_0_0⟩ := bk hb2 (w.heap.size) (by first | omega | (simp; done) | (simp; omega) | fail); obtain ⟨y_w2_0_1, c_w2_0_1, f_w2_0_1, r_w2_0_1, t_w2_0_1, p_w2_0_1⟩ := bk hb2 (w.heap.size + 1) (by first | omega | (simp; done) | (simp; omega) | fail); obtain ⟨y_w2_0_2, c_w2_0_2, f_w2_0_2, r_w2_0_2, t_w2_0_2, p_w2_0_2⟩ := bk hb2 (w.heap.size + 1 + 1) (by first | omega | (simp; done) | (simp; omega) | fail); obtain ⟨y_w2_1_0, c_w2_1_0, f_w2_1_0, r_w2_1_0, t_w2_1_0, p_w2_1_0⟩ := bk hb2 (w1.heap.size) (by first | omega | (simp; done) | (simp; omega) | fail)
          go_wp2_with fail
          refine (mayStrip_v _ _ _ _ _ _ _ HF.out _).mono ?_; rintro e w3 ⟨rfl, hb3⟩; have z_w3 := hb3.size; (try simp at z_w3); obtain ⟨y_w3_0_0, c_w3_0_0, f_w3_0_0, r_w3_0_0, t_w3_0_0, p_w3_0_0⟩ := bk hb3 (w.heap.size) (by first | omega | (simp; done) | (simp; omega) | fail); obtain ⟨y_w3_0_1, c_w3_0_1, f_w3_0_1, r_w3_0_1, t_w3_0_1, p_w3_0_1⟩ := bk hb3 (w.heap.size + 1) (by first | omega | (simp; done) | (simp; omega) | fail); obtain ⟨y_w3_0_2, c_w3_0_2, f_w3_0_2, r_w3_0_2, t_w3_0_2, p_w3_0_2⟩ := bk hb3 (w.heap.size + 1 + 1) (by first | omega | (simp; done) | (simp; omega) | fail); obtain ⟨y_w3_1_0, c_w3_1_0, f_w3_1_0, r_w3_1_0, t_w3_1_0, p_w3_1_0⟩ := bk hb3 (w1.heap.size) (by first | omega | (simp; done) | (simp; omega) | fail)
          go_wp2_with fail
          refine (ellin_v _ _ _ _ _ _ _ _ HA.out _).mono ?_; rintro e w4 ⟨rfl, hb4⟩; have z_w4 := hb4.size; (try simp at z_w4); obtain ⟨y_w4_0_0, c_w4_0_0, f_w4_0_0, r_w4_0_0, t_w4_0_0, p_w4_0_0⟩ := bk hb4 (w.heap.size) (by first | omega | (simp; done) | (simp; omega) | fail); obtain ⟨y_w4_0_1, c_w4_0_1, f_w4_0_1, r_w4_0_1, t_w4_0_1, p_w4_0_1⟩ := bk hb4 (w.heap.size + 1) (by first | omega | (simp; done) | (simp; omega) | fail); obtain ⟨y_w4_0_2, c_w4_0_2, f_w4_0_2, r_w4_0_2, t_w4_0_2, p_w4_0_2⟩ := bk hb4 (w.heap.size + 1 + 1) (by first | omega | (simp; done) | (simp; omega) | fail); obtain ⟨y_w4_1_0, c_w4_1_0, f_w4_1_0, r_w4_1_0, t_w4_1_0, p_w4_1_0⟩ := bk hb4 (w1.heap.size) (by first | omega | (simp; done) | (simp; omega) | fail)
          go_wp2_with fail
          have c0 := cell_regrown (show w4.cell? ⟨w.heap.size, 0, none⟩ = some (.int .i64 x) from (by go_simp)); have c1 := cell_regrown (show w4.cell? ⟨w.heap.size, 1, none⟩ = some (.int .i64 y) from (by go_simp)); have c2 := cell_regrown (show w4.cell? ⟨w.heap.size, 2, none⟩ = some (.int .i64 a) from (by go_simp)); have c3 := cell_regrown (show w4.cell? ⟨w.heap.size, 3, none⟩ = some (.int .i64 b) from (by go_simp)); have c4 := cell_regrown (show w4.cell? ⟨w.heap.size, 4, none⟩ = some (.int .i64 d) from (by go_simp))
          have g0 := cell_regrown (show w4.cell? ⟨w1.heap.size, 0, none⟩ = some (.int .i64 gx) from (by go_simp)); have g1 := cell_regrown (show w4.cell? ⟨w1.heap.size, 1, none⟩ = some (.int .i64 gy) from (by go_simp)); have g2 := cell_regrown (show w4.cell? ⟨w1.heap.size, 2, none⟩ = some (.int .i64 ga) from (by go_simp)); have g3 := cell_regrown (show w4.cell? ⟨w1.heap.size, 3, none⟩ = some (.int .i64 gb) from (by go_simp)); have g4 := cell_regrown (show w4.cell? ⟨w1.heap.size, 4, none⟩ = some (.int .i64 gd) from (by go_simp))
          refine wp_region_quiet_below (by kernel_rfl) (by kernel_rfl) ?_
          repeat (go_big_quiet_step (first | (go_at_call 31; exact Calls.regrown_of (trace_v _ _ _ _ _ _ (by first | with_reducible exact T1.out | with_reducible exact T2.out) _)) | (go_at_call 30; exact Calls.regrown_of (awake7_c _))))
          refine wpQuiet_nil ?_
          intro wq hwq
          have hbq := below_of_regrown hwq
          clear hwq
          go_wp2
          go_ret
          exact ⟨rfl, (by repeat (first | with_reducible exact Below.refl _ _ | with_reducible exact Below_of_hid (by assumption) | with_reducible refine Below.drew ?_ | with_reducible refine below_drewN ?_ _ | (with_reducible refine Below_putRow ?_ ?hB _ _; case hB => (first | omega | (simp; done) | (simp; omega))) | (with_reducible refine Below.alloc ?_ ?hB _; case hB => (first | omega | (simp; done) | (simp; omega))) | (with_reducible refine Below.setCell ?_ ?hB _; case hB => (first | omega | (simp; done) | (simp; omega))) | (with_reducible refine Below.trans ?_ (Below.mono (by assumption) ?hB); case hB => (first | omega | (simp; done) | (simp; omega)))))⟩
        · have k0 : (0 : Int) = 0 := rfl
          clear k0
          obtain ⟨⟨ss1, ss2⟩, ⟨ss3, ss4⟩⟩ := SS rfl
          obtain ⟨pb1, pb2, pb3, pb4⟩ := PB rfl
          obtain ⟨qb1, qb2, qb3, qb4⟩ := QB rfl
          obtain ⟨lb1, lb2⟩ := LB rfl
          clear SS PB QB LB hyes
          go_enter Try.func12, Try.ntmps12
          go_wp2_with fail
          refine (gcut_v _ _ _ _ _ _ _ _ _ _ _ _ _ _ _ _ _ HG.out _).mono ?_; rintro e w1 ⟨rfl, hb1⟩; have z_w1 := hb1.size; (try simp at z_w1); obtain ⟨y_w1_0_0, c_w1_0_0, f_w1_0_0, r_w1_0_0, t_w1_0_0, p_w1_0_0⟩ := bk hb1 (w.heap.size) (by first | omega | (simp; done) | (simp; omega) | fail); obtain ⟨y_w1_0_1, c_w1_0_1, f_w1_0_1, r_w1_0_1, t_w1_0_1, p_w1_0_1⟩ := bk hb1 (w.heap.size + 1) (by first | omega | (simp; done) | (simp; omega) | fail); obtain ⟨y_w1_0_2, c_w1_0_2, f_w1_0_2, r_w1_0_2, t_w1_0_2, p_w1_0_2⟩ := bk hb1 (w.heap.size + 1 + 1) (by first | omega | (simp; done) | (simp; omega) | fail)
          go_wp2_with fail
          refine (ellmay_v _ _ _ _ _ _ HM.out _).mono ?_; rintro e w2 ⟨rfl, hb2⟩; have z_w2 := hb2.size; (try simp at z_w2); obtain ⟨y_w2_0_0, c_w2_0_0, f_w2_0_0, r_w2_0_0, t_w2_0_0, p_w2_0_0⟩ := bk hb2 (w.heap.size) (by first | omega | (simp; done) | (simp; omega) | fail); obtain ⟨y_w2_0_1, c_w2_0_1, f_w2_0_1, r_w2_0_1, t_w2_0_1, p_w2_0_1⟩ := bk hb2 (w.heap.size + 1) (by first | omega | (simp; done) | (simp; omega) | fail); obtain ⟨y_w2_0_2, c_w2_0_2, f_w2_0_2, r_w2_0_2, t_w2_0_2, p_w2_0_2⟩ := bk hb2 (w.heap.size + 1 + 1) (by first | omega | (simp; done) | (simp; omega) | fail); obtain ⟨y_w2_1_0, c_w2_1_0, f_w2_1_0, r_w2_1_0, t_w2_1_0, p_w2_1_0⟩ := bk hb2 (w1.heap.size) (by first | omega | (simp; done) | (simp; omega) | fail)
          go_wp2_with fail
          refine (mayStrip_v _ _ _ _ _ _ _ HF.out _).mono ?_; rintro e w3 ⟨rfl, hb3⟩; have z_w3 := hb3.size; (try simp at z_w3); obtain ⟨y_w3_0_0, c_w3_0_0, f_w3_0_0, r_w3_0_0, t_w3_0_0, p_w3_0_0⟩ := bk hb3 (w.heap.size) (by first | omega | (simp; done) | (simp; omega) | fail); obtain ⟨y_w3_0_1, c_w3_0_1, f_w3_0_1, r_w3_0_1, t_w3_0_1, p_w3_0_1⟩ := bk hb3 (w.heap.size + 1) (by first | omega | (simp; done) | (simp; omega) | fail); obtain ⟨y_w3_0_2, c_w3_0_2, f_w3_0_2, r_w3_0_2, t_w3_0_2, p_w3_0_2⟩ := bk hb3 (w.heap.size + 1 + 1) (by first | omega | (simp; done) | (simp; omega) | fail); obtain ⟨y_w3_1_0, c_w3_1_0, f_w3_1_0, r_w3_1_0, t_w3_1_0, p_w3_1_0⟩ := bk hb3 (w1.heap.size) (by first | omega | (simp; done) | (simp; omega) | fail)
          go_wp2_with fail
          refine (ellin_v _ _ _ _ _ _ _ _ HA.out _).mono ?_; rintro e w4 ⟨rfl, hb4⟩; have z_w4 := hb4.size; (try simp at z_w4); obtain ⟨y_w4_0_0, c_w4_0_0, f_w4_0_0, r_w4_0_0, t_w4_0_0, p_w4_0_0⟩ := bk hb4 (w.heap.size) (by first | omega | (simp; done) | (simp; omega) | fail); obtain ⟨y_w4_0_1, c_w4_0_1, f_w4_0_1, r_w4_0_1, t_w4_0_1, p_w4_0_1⟩ := bk hb4 (w.heap.size + 1) (by first | omega | (simp; done) | (simp; omega) | fail); obtain ⟨y_w4_0_2, c_w4_0_2, f_w4_0_2, r_w4_0_2, t_w4_0_2, p_w4_0_2⟩ := bk hb4 (w.heap.size + 1 + 1) (by first | omega | (simp; done) | (simp; omega) | fail); obtain ⟨y_w4_1_0, c_w4_1_0, f_w4_1_0, r_w4_1_0, t_w4_1_0, p_w4_1_0⟩ := bk hb4 (w1.heap.size) (by first | omega | (simp; done) | (simp; omega) | fail)
          go_wp2_with fail
          have c0 := cell_regrown (show w4.cell? ⟨w.heap.size, 0, none⟩ = some (.int .i64 x) from (by go_simp)); have c1 := cell_regrown (show w4.cell? ⟨w.heap.size, 1, none⟩ = some (.int .i64 y) from (by go_simp)); have c2 := cell_regrown (show w4.cell? ⟨w.heap.size, 2, none⟩ = some (.int .i64 a) from (by go_simp)); have c3 := cell_regrown (show w4.cell? ⟨w.heap.size, 3, none⟩ = some (.int .i64 b) from (by go_simp)); have c4 := cell_regrown (show w4.cell? ⟨w.heap.size, 4, none⟩ = some (.int .i64 d) from (by go_simp))
          have g0 := cell_regrown (show w4.cell? ⟨w1.heap.size, 0, none⟩ = some (.int .i64 gx) from (by go_simp)); have g1 := cell_regrown (show w4.cell? ⟨w1.heap.size, 1, none⟩ = some (.int .i64 gy) from (by go_simp)); have g2 := cell_regrown (show w4.cell? ⟨w1.heap.size, 2, none⟩ = some (.int .i64 ga) from (by go_simp)); have g3 := cell_regrown (show w4.cell? ⟨w1.heap.size, 3, none⟩ = some (.int .i64 gb) from (by go_simp)); have g4 := cell_regrown (show w4.cell? ⟨w1.heap.size, 4, none⟩ = some (.int .i64 gd) from (by go_simp))
          refine wp_region_quiet_below (by kernel_rfl) (by kernel_rfl) ?_
          repeat (go_big_quiet_step (first | (go_at_call 31; exact Calls.regrown_of (trace_v _ _ _ _ _ _ (by first | with_reducible exact T1.out | with_reducible exact T2.out) _)) | (go_at_call 30; exact Calls.regrown_of (awake7_c _))))
          refine wpQuiet_nil ?_
          intro wq hwq
          have hbq := below_of_regrown hwq
          clear hwq
          go_wp2
          go_ret
          exact ⟨rfl, (by repeat (first | with_reducible exact Below.refl _ _ | with_reducible exact Below_of_hid (by assumption) | with_reducible refine Below.drew ?_ | with_reducible refine below_drewN ?_ _ | (with_reducible refine Below_putRow ?_ ?hB _ _; case hB => (first | omega | (simp; done) | (simp; omega))) | (with_reducible refine Below.alloc ?_ ?hB _; case hB => (first | omega | (simp; done) | (simp; omega))) | (with_reducible refine Below.setCell ?_ ?hB _; case hB => (first | omega | (simp; done) | (simp; omega))) | (with_reducible refine Below.trans ?_ (Below.mono (by assumption) ?hB); case hB => (first | omega | (simp; done) | (simp; omega)))))⟩
        · have k0 : (0 : Int) = 0 := rfl
          clear k0
          obtain ⟨⟨ss1, ss2⟩, ⟨ss3, ss4⟩⟩ := SS rfl
          obtain ⟨pb1, pb2, pb3, pb4⟩ := PB rfl
          obtain ⟨qb1, qb2, qb3, qb4⟩ := QB rfl
          obtain ⟨lb1, lb2⟩ := LB rfl
          clear SS PB QB LB hyes
          go_enter Try.func12, Try.ntmps12
          go_wp2_with fail
          refine (gcut_v _ _ _ _ _ _ _ _ _ _ _ _ _ _ _ _ _ HG.out _).mono ?_; rintro e w1 ⟨rfl, hb1⟩; have z_w1 := hb1.size; (try simp at z_w1); obtain ⟨y_w1_0_0, c_w1_0_0, f_w1_0_0, r_w1_0_0, t_w1_0_0, p_w1_0_0⟩ := bk hb1 (w.heap.size) (by first | omega | (simp; done) | (simp; omega) | fail); obtain ⟨y_w1_0_1, c_w1_0_1, f_w1_0_1, r_w1_0_1, t_w1_0_1, p_w1_0_1⟩ := bk hb1 (w.heap.size + 1) (by first | omega | (simp; done) | (simp; omega) | fail); obtain ⟨y_w1_0_2, c_w1_0_2, f_w1_0_2, r_w1_0_2, t_w1_0_2, p_w1_0_2⟩ := bk hb1 (w.heap.size + 1 + 1) (by first | omega | (simp; done) | (simp; omega) | fail)
          go_wp2_with fail
          refine (ellmay_v _ _ _ _ _ _ HM.out _).mono ?_; rintro e w2 ⟨rfl, hb2⟩; have z_w2 := hb2.size; (try simp at z_w2); obtain ⟨y_w2_0_0, c_w2_0_0, f_w2_0_0, r_w2_0_0, t_w2_0_0, p_w2_0_0⟩ := bk hb2 (w.heap.size) (by first | omega | (simp; done) | (simp; omega) | fail); obtain ⟨y_w2_0_1, c_w2_0_1, f_w2_0_1, r_w2_0_1, t_w2_0_1, p_w2_0_1⟩ := bk hb2 (w.heap.size + 1) (by first | omega | (simp; done) | (simp; omega) | fail); obtain ⟨y_w2_0_2, c_w2_0_2, f_w2_0_2, r_w2_0_2, t_w2_0_2, p_w2_0_2⟩ := bk hb2 (w.heap.size + 1 + 1) (by first | omega | (simp; done) | (simp; omega) | fail); obtain ⟨y_w2_1_0, c_w2_1_0, f_w2_1_0, r_w2_1_0, t_w2_1_0, p_w2_1_0⟩ := bk hb2 (w1.heap.size) (by first | omega | (simp; done) | (simp; omega) | fail)
          go_wp2_with fail
          refine (mayStrip_v _ _ _ _ _ _ _ HF.out _).mono ?_; rintro e w3 ⟨rfl, hb3⟩; have z_w3 := hb3.size; (try simp at z_w3); obtain ⟨y_w3_0_0, c_w3_0_0, f_w3_0_0, r_w3_0_0, t_w3_0_0, p_w3_0_0⟩ := bk hb3 (w.heap.size) (by first | omega | (simp; done) | (simp; omega) | fail); obtain ⟨y_w3_0_1, c_w3_0_1, f_w3_0_1, r_w3_0_1, t_w3_0_1, p_w3_0_1⟩ := bk hb3 (w.heap.size + 1) (by first | omega | (simp; done) | (simp; omega) | fail); obtain ⟨y_w3_0_2, c_w3_0_2, f_w3_0_2, r_w3_0_2, t_w3_0_2, p_w3_0_2⟩ := bk hb3 (w.heap.size + 1 + 1) (by first | omega | (simp; done) | (simp; omega) | fail); obtain ⟨y_w3_1_0, c_w3_1_0, f_w3_1_0, r_w3_1_0, t_w3_1_0, p_w3_1_0⟩ := bk hb3 (w1.heap.size) (by first | omega | (simp; done) | (simp; omega) | fail)
          go_wp2_with fail
          refine (ellin_v _ _ _ _ _ _ _ _ HA.out _).mono ?_; rintro e w4 ⟨rfl, hb4⟩; have z_w4 := hb4.size; (try simp at z_w4); obtain ⟨y_w4_0_0, c_w4_0_0, f_w4_0_0, r_w4_0_0, t_w4_0_0, p_w4_0_0⟩ := bk hb4 (w.heap.size) (by first | omega | (simp; done) | (simp; omega) | fail); obtain ⟨y_w4_0_1, c_w4_0_1, f_w4_0_1, r_w4_0_1, t_w4_0_1, p_w4_0_1⟩ := bk hb4 (w.heap.size + 1) (by first | omega | (simp; done) | (simp; omega) | fail); obtain ⟨y_w4_0_2, c_w4_0_2, f_w4_0_2, r_w4_0_2, t_w4_0_2, p_w4_0_2⟩ := bk hb4 (w.heap.size + 1 + 1) (by first | omega | (simp; done) | (simp; omega) | fail); obtain ⟨y_w4_1_0, c_w4_1_0, f_w4_1_0, r_w4_1_0, t_w4_1_0, p_w4_1_0⟩ := bk hb4 (w1.heap.size) (by first | omega | (simp; done) | (simp; omega) | fail)
          go_wp2_with fail
          have c0 := cell_regrown (show w4.cell? ⟨w.heap.size, 0, none⟩ = some (.int .i64 x) from (by go_simp)); have c1 := cell_regrown (show w4.cell? ⟨w.heap.size, 1, none⟩ = some (.int .i64 y) from (by go_simp)); have c2 := cell_regrown (show w4.cell? ⟨w.heap.size, 2, none⟩ = some (.int .i64 a) from (by go_simp)); have c3 := cell_regrown (show w4.cell? ⟨w.heap.size, 3, none⟩ = some (.int .i64 b) from (by go_simp)); have c4 := cell_regrown (show w4.cell? ⟨w.heap.size, 4, none⟩ = some (.int .i64 d) from (by go_simp))
          have g0 := cell_regrown (show w4.cell? ⟨w1.heap.size, 0, none⟩ = some (.int .i64 gx) from (by go_simp)); have g1 := cell_regrown (show w4.cell? ⟨w1.heap.size, 1, none⟩ = some (.int .i64 gy) from (by go_simp)); have g2 := cell_regrown (show w4.cell? ⟨w1.heap.size, 2, none⟩ = some (.int .i64 ga) from (by go_simp)); have g3 := cell_regrown (show w4.cell? ⟨w1.heap.size, 3, none⟩ = some (.int .i64 gb) from (by go_simp)); have g4 := cell_regrown (show w4.cell? ⟨w1.heap.size, 4, none⟩ = some (.int .i64 gd) from (by go_simp))
          refine wp_region_quiet_below (by kernel_rfl) (by kernel_rfl) ?_
          repeat (go_big_quiet_step (first | (go_at_call 31; exact Calls.regrown_of (trace_v _ _ _ _ _ _ (by first | with_reducible exact T1.out | with_reducible exact T2.out) _)) | (go_at_call 30; exact Calls.regrown_of (awake7_c _))))
          refine wpQuiet_nil ?_
          intro wq hwq
          have hbq := below_of_regrown hwq
          clear hwq
          go_wp2
          go_ret
          exact ⟨rfl, (by repeat (first | with_reducible exact Below.refl _ _ | with_reducible exact Below_of_hid (by assumption) | with_reducible refine Below.drew ?_ | with_reducible refine below_drewN ?_ _ | (with_reducible refine Below_putRow ?_ ?hB _ _; case hB => (first | omega | (simp; done) | (simp; omega))) | (with_reducible refine Below.alloc ?_ ?hB _; case hB => (first | omega | (simp; done) | (simp; omega))) | (with_reducible refine Below.setCell ?_ ?hB _; case hB => (first | omega | (simp; done) | (simp; omega))) | (with_reducible refine Below.trans ?_ (Below.mono (by assumption) ?hB); case hB => (first | omega | (simp; done) | (simp; omega)))))⟩
        · have k0 : (0 : Int) = 0 := rfl
          clear k0
          obtain ⟨⟨ss1, ss2⟩, ⟨ss3, ss4⟩⟩ := SS rfl
          obtain ⟨pb1, pb2, pb3, pb4⟩ := PB rfl
          obtain ⟨qb1, qb2, qb3, qb4⟩ := QB rfl
          obtain ⟨lb1, lb2⟩ := LB rfl
          have HH := Lib.hid (hyes rfl (by omega) (by omega))
          clear SS PB QB LB hyes
          go_enter Try.func12, Try.ntmps12
          go_wp2_with fail
          refine (gcut_v _ _ _ _ _ _ _ _ _ _ _ _ _ _ _ _ _ HG.out _).mono ?_; rintro e w1 ⟨rfl, hb1⟩; have z_w1 := hb1.size; (try simp at z_w1); obtain ⟨y_w1_0_0, c_w1_0_0, f_w1_0_0, r_w1_0_0, t_w1_0_0, p_w1_0_0⟩ := bk hb1 (w.heap.size) (by first | omega | (simp; done) | (simp; omega) | fail); obtain ⟨y_w1_0_1, c_w1_0_1, f_w1_0_1, r_w1_0_1, t_w1_0_1, p_w1_0_1⟩ := bk hb1 (w.heap.size + 1) (by first | omega | (simp; done) | (simp; omega) | fail); obtain ⟨y_w1_0_2, c_w1_0_2, f_w1_0_2, r_w1_0_2, t_w1_0_2, p_w1_0_2⟩ := bk hb1 (w.heap.size + 1 + 1) (by first | omega | (simp; done) | (simp; omega) | fail)
          go_wp2_with fail
          refine (ellmay_v _ _ _ _ _ _ HM.out _).mono ?_; rintro e w2 ⟨rfl, hb2⟩; have z_w2 := hb2.size; (try simp at z_w2); obtain ⟨y_w2_0_0, c_w2_0_0, f_w2_0_0, r_w2_0_0, t_w2_0_0, p_w2_0_0⟩ := bk hb2 (w.heap.size) (by first | omega | (simp; done) | (simp; omega) | fail); obtain ⟨y_w2_0_1, c_w2_0_1, f_w2_0_1, r_w2_0_1, t_w2_0_1, p_w2_0_1⟩ := bk hb2 (w.heap.size + 1) (by first | omega | (simp; done) | (simp; omega) | fail); obtain ⟨y_w2_0_2, c_w2_0_2, f_w2_0_2, r_w2_0_2, t_w2_0_2, p_w2_0_2⟩ := bk hb2 (w.heap.size + 1 + 1) (by first | omega | (simp; done) | (simp; omega) | fail); obtain ⟨y_w2_1_0, c_w2_1_0, f_w2_1_0, r_w2_1_0, t_w2_1_0, p_w2_1_0⟩ := bk hb2 (w1.heap.size) (by first | omega | (simp; done) | (simp; omega) | fail)
          go_wp2_with fail
          refine (mayStrip_v _ _ _ _ _ _ _ HF.out _).mono ?_; rintro e w3 ⟨rfl, hb3⟩; have z_w3 := hb3.size; (try simp at z_w3); obtain ⟨y_w3_0_0, c_w3_0_0, f_w3_0_0, r_w3_0_0, t_w3_0_0, p_w3_0_0⟩ := bk hb3 (w.heap.size) (by first | omega | (simp; done) | (simp; omega) | fail); obtain ⟨y_w3_0_1, c_w3_0_1, f_w3_0_1, r_w3_0_1, t_w3_0_1, p_w3_0_1⟩ := bk hb3 (w.heap.size + 1) (by first | omega | (simp; done) | (simp; omega) | fail); obtain ⟨y_w3_0_2, c_w3_0_2, f_w3_0_2, r_w3_0_2, t_w3_0_2, p_w3_0_2⟩ := bk hb3 (w.heap.size + 1 + 1) (by first | omega | (simp; done) | (simp; omega) | fail); obtain ⟨y_w3_1_0, c_w3_1_0, f_w3_1_0, r_w3_1_0, t_w3_1_0, p_w3_1_0⟩ := bk hb3 (w1.heap.size) (by first | omega | (simp; done) | (simp; omega) | fail)
          go_wp2_with fail
          refine (ellin_v _ _ _ _ _ _ _ _ HA.out _).mono ?_; rintro e w4 ⟨rfl, hb4⟩; have z_w4 := hb4.size; (try simp at z_w4); obtain ⟨y_w4_0_0, c_w4_0_0, f_w4_0_0, r_w4_0_0, t_w4_0_0, p_w4_0_0⟩ := bk hb4 (w.heap.size) (by first | omega | (simp; done) | (simp; omega) | fail); obtain ⟨y_w4_0_1, c_w4_0_1, f_w4_0_1, r_w4_0_1, t_w4_0_1, p_w4_0_1⟩ := bk hb4 (w.heap.size + 1) (by first | omega | (simp; done) | (simp; omega) | fail); obtain ⟨y_w4_0_2, c_w4_0_2, f_w4_0_2, r_w4_0_2, t_w4_0_2, p_w4_0_2⟩ := bk hb4 (w.heap.size + 1 + 1) (by first | omega | (simp; done) | (simp; omega) | fail); obtain ⟨y_w4_1_0, c_w4_1_0, f_w4_1_0, r_w4_1_0, t_w4_1_0, p_w4_1_0⟩ := bk hb4 (w1.heap.size) (by first | omega | (simp; done) | (simp; omega) | fail)
          go_wp2_with fail
          refine (ellin_v _ _ _ _ _ _ _ _ HH.out _).mono ?_; rintro e w5 ⟨rfl, hb5⟩; have z_w5 := hb5.size; (try simp at z_w5); obtain ⟨y_w5_0_0, c_w5_0_0, f_w5_0_0, r_w5_0_0, t_w5_0_0, p_w5_0_0⟩ := bk hb5 (w.heap.size) (by first | omega | (simp; done) | (simp; omega) | fail); obtain ⟨y_w5_0_1, c_w5_0_1, f_w5_0_1, r_w5_0_1, t_w5_0_1, p_w5_0_1⟩ := bk hb5 (w.heap.size + 1) (by first | omega | (simp; done) | (simp; omega) | fail); obtain ⟨y_w5_0_2, c_w5_0_2, f_w5_0_2, r_w5_0_2, t_w5_0_2, p_w5_0_2⟩ := bk hb5 (w.heap.size + 1 + 1) (by first | omega | (simp; done) | (simp; omega) | fail); obtain ⟨y_w5_1_0, c_w5_1_0, f_w5_1_0, r_w5_1_0, t_w5_1_0, p_w5_1_0⟩ := bk hb5 (w1.heap.size) (by first | omega | (simp; done) | (simp; omega) | fail)
          go_wp2_with fail
          have c0 := cell_regrown (show w5.cell? ⟨w.heap.size, 0, none⟩ = some (.int .i64 x) from (by go_simp)); have c1 := cell_regrown (show w5.cell? ⟨w.heap.size, 1, none⟩ = some (.int .i64 y) from (by go_simp)); have c2 := cell_regrown (show w5.cell? ⟨w.heap.size, 2, none⟩ = some (.int .i64 a) from (by go_simp)); have c3 := cell_regrown (show w5.cell? ⟨w.heap.size, 3, none⟩ = some (.int .i64 b) from (by go_simp)); have c4 := cell_regrown (show w5.cell? ⟨w.heap.size, 4, none⟩ = some (.int .i64 d) from (by go_simp))
          have g0 := cell_regrown (show w5.cell? ⟨w1.heap.size, 0, none⟩ = some (.int .i64 gx) from (by go_simp)); have g1 := cell_regrown (show w5.cell? ⟨w1.heap.size, 1, none⟩ = some (.int .i64 gy) from (by go_simp)); have g2 := cell_regrown (show w5.cell? ⟨w1.heap.size, 2, none⟩ = some (.int .i64 ga) from (by go_simp)); have g3 := cell_regrown (show w5.cell? ⟨w1.heap.size, 3, none⟩ = some (.int .i64 gb) from (by go_simp)); have g4 := cell_regrown (show w5.cell? ⟨w1.heap.size, 4, none⟩ = some (.int .i64 gd) from (by go_simp))
          refine wp_region_quiet_below (by kernel_rfl) (by kernel_rfl) ?_
          repeat (go_big_quiet_step (first | (go_at_call 31; exact Calls.regrown_of (trace_v _ _ _ _ _ _ (by first | with_reducible exact T1.out | with_reducible exact T2.out) _)) | (go_at_call 30; exact Calls.regrown_of (awake7_c _))))
          refine wpQuiet_nil ?_
          intro wq hwq
          have hbq := below_of_regrown hwq
          clear hwq
          go_wp2
          go_ret
          exact ⟨rfl, (by repeat (first | with_reducible exact Below.refl _ _ | with_reducible exact Below_of_hid (by assumption) | with_reducible refine Below.drew ?_ | with_reducible refine below_drewN ?_ _ | (with_reducible refine Below_putRow ?_ ?hB _ _; case hB => (first | omega | (simp; done) | (simp; omega))) | (with_reducible refine Below.alloc ?_ ?hB _; case hB => (first | omega | (simp; done) | (simp; omega))) | (with_reducible refine Below.setCell ?_ ?hB _; case hB => (first | omega | (simp; done) | (simp; omega))) | (with_reducible refine Below.trans ?_ (Below.mono (by assumption) ?hB); case hB => (first | omega | (simp; done) | (simp; omega)))))⟩
end Go.Proofs.Ytjfphfnfbgmlfaa
namespace Go.Proofs.Ytjfphfnfbgmlfaa.goldenCuts
open Go.ChangeShapes Go.WideShapes Go.ChangeAt Go.RowKit
set_option linter.unusedVariables false

theorem readable : ∀ t ∈ Try.f12.params.toList, Try.prog.readableRec t = true ∧ t < Try.prog.types.size := by
  rw [Try.params12]
  intro t ht
  simp at ht
  repeat' (rcases ht with rfl | ht)
  all_goals first | exact ⟨by kernel_rfl, of_decide_eq_true (by kernel_rfl)⟩ | (subst ht; exact ⟨by kernel_rfl, of_decide_eq_true (by kernel_rfl)⟩)

set_option maxRecDepth 100000 in
theorem lifted (os : Os) (started : os.Started) (H : Type) (enc : TypeId × Value → H) :
    ReturnsInHanded {} Try.checked os 12 .any (Rows.goldenCutsSpec.pre6 enc Try.prog Try.f12 Rows.goldenCutsRow.domain false) (Rows.goldenCutsSpec.post enc Try.prog Try.f12 false true false false) := by
  refine returnsInHanded_of_change (C := Try.checked) own started (by kernel_rfl) Try.func12
    (ChangeSpec.witness6 (enc := enc) (C := Try.checked) false ⟨#[], #[elC 0 0 0 0 0, stC 0 0 0 0 0 0, ptV 0 0], []⟩ 8 (by kernel_rfl) (by kernel_rfl) (by kernel_rfl) (by kernel_rfl)) ?_
  intro W base args ds gs before hval0 hW hcnd _
  have hval : ∀ (j : Nat) t v, Try.f12.params[j]? = some t → args[j]? = some v → Value.okWide Try.prog W .any base t v := hval0
  have hW' := hW
  obtain ⟨p, q, hA0, hV, rfl, hfz, hnd⟩ := hW
  have hA : DataW.TrodAll enc Try.prog W 0 (fun _ => true) true Try.f12.params.toList args.toList ds p := hA0
  have again := fun W' (hb : Below W.heap.size W W') => trodAll_again laidOut hb _ _ _ _ readable hA
  rw [Try.params12] at hA hval
  obtain ⟨v0, vs0, d0, ds0, p0, q0, hargs, rfl, rfl, g0, r0⟩ := trodAll_cons hA
  obtain ⟨v1, vs1, d1, ds1, p1, q1, rfl, rfl, rfl, g1, r1⟩ := trodAll_cons r0
  obtain ⟨v2, vs2, d2, ds2, p2, q2, rfl, rfl, rfl, g2, r2⟩ := trodAll_cons r1
  obtain ⟨rfl, rfl, rfl⟩ := trodAll_nil r2
  obtain rfl : args = #[v0, v1, v2] := by cases args; simp_all
  obtain ⟨rfl, rfl⟩ := trodVars_none hV
  obtain ⟨x0_0, x0_1, x0_2, x0_3, x0_4, rfl, h0_0, h0_1, h0_2, h0_3, h0_4⟩ := open_el (hval 0 _ v0 rfl rfl)
  obtain ⟨x1_0, x1_1, x1_2, x1_3, x1_4, x1_5, rfl, h1_0, h1_1, h1_2, h1_3, h1_4, h1_5⟩ := open_strip (hval 1 _ v1 rfl rfl)
  obtain ⟨x2_0, x2_1, rfl, h2_0, h2_1⟩ := open_pt (hval 2 _ v2 rfl rfl)
  clear hA0 hval0
  refine (goldenCuts_c x0_0 x0_1 x0_2 x0_3 x0_4 x1_0 x1_1 x1_2 x1_3 x1_4 x1_5 x2_0 x2_1 W).mono fun e W' ⟨he, bel⟩ => ?_
  subst he
  exact ⟨_, rfl, _, _, _, [], _, [], hW', trodAll_mk1 (shut_bool Try.underlying4 _), again W' bel, rfl, bel.frame _, fun h => by cases h⟩

theorem over : Rows.goldenCutsRow.holds Try.pinned (OpenSpec.ofChange Rows.goldenCutsSpec) :=
  OpenClaim.holds_of_wide 12 Try.f12 rfl rfl rfl rfl rfl rfl rfl ⟨rfl, rfl, rfl, rfl, rfl⟩ rfl rfl rfl rfl rfl (by kernel_rfl) Try.func12 (by kernel_rfl)
    (of_decide_eq_true (by kernel_rfl)) (by unfold Func.isWrapper; first | (rw [if_pos (by decide +kernel)]; kernel_rfl) | (rw [if_neg (by decide +kernel)]; exact ⟨rfl, rfl⟩))
    (fun os started H enc _ => lifted os started H enc)

theorem proved : Rows.GoldenCutsSaid := over
#print axioms proved
end Go.Proofs.Ytjfphfnfbgmlfaa.goldenCuts
