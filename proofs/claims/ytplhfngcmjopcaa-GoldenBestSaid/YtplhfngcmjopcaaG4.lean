/- The walk of the document's search: atMost, ask, Best. -/
import Derived.Test.YtplhfngcmjopcaaG3
import Derived.BigQuiet
namespace Go.Proofs.Ytplhfngcmjopcaa
open Go.RowKit

theorem atMost_c (n m : Int) (p q : Bool) (w : World) :
    Calls Try.prog 14 #[.agg #[.int .i64 n, .bool p], .agg #[.int .i64 m, .bool q]] w fun e w' => e = .returned (.bool (gm (n, p) (m, q))) ∧ Below w.heap.size w w' := by
  cases p
  · have E : Hid (gm (n, false) (m, q) = !q) := by cases q <;> exact rfl
    go_enter Try.func14, Try.ntmps14
    go_wp2
    go_ret
    exact ⟨by rw [E.out]; rfl, (by repeat (first | exact Below.refl _ _ | exact Below_of_hid (by assumption) | refine Below.drew ?_ | refine below_drewN ?_ _ | refine Below_putRow ?_ (by first | omega | (simp; done) | (simp; omega) | fail) _ _ | refine Below.alloc ?_ (by first | omega | (simp; done) | (simp; omega) | fail) _ | refine Below.setCell ?_ (by first | omega | (simp; done) | (simp; omega) | fail) _ | refine Below.trans ?_ (Below.mono (by assumption) (by first | omega | (simp; done) | (simp; omega) | fail))))⟩
  · cases q
    · go_enter Try.func14, Try.ntmps14
      go_wp2
      go_ret
      exact ⟨rfl, (by repeat (first | exact Below.refl _ _ | exact Below_of_hid (by assumption) | refine Below.drew ?_ | refine below_drewN ?_ _ | refine Below_putRow ?_ (by first | omega | (simp; done) | (simp; omega) | fail) _ _ | refine Below.alloc ?_ (by first | omega | (simp; done) | (simp; omega) | fail) _ | refine Below.setCell ?_ (by first | omega | (simp; done) | (simp; omega) | fail) _ | refine Below.trans ?_ (Below.mono (by assumption) (by first | omega | (simp; done) | (simp; omega) | fail))))⟩
    · have E : Hid (gm (n, true) (m, true) = decide (n ≤ m)) := rfl
      go_enter Try.func14, Try.ntmps14
      go_wp2
      go_ret
      exact ⟨by rw [E.out]; rfl, (by repeat (first | exact Below.refl _ _ | exact Below_of_hid (by assumption) | refine Below.drew ?_ | refine below_drewN ?_ _ | refine Below_putRow ?_ (by first | omega | (simp; done) | (simp; omega) | fail) _ _ | refine Below.alloc ?_ (by first | omega | (simp; done) | (simp; omega) | fail) _ | refine Below.setCell ?_ (by first | omega | (simp; done) | (simp; omega) | fail) _ | refine Below.trans ?_ (Below.mono (by assumption) (by first | omega | (simp; done) | (simp; omega) | fail))))⟩

theorem rbelow_drewN {B : Nat} {a w : World} (h : Below B a w) (n : Nat) : Below B a (w.drewN n) := ⟨h.os, h.tape, h.output, h.size, h.block⟩
theorem blk_drewN {w : World} {b : Nat} {c : Array Value} {t : TypeId} (h : Blk w b c t) (n : Nat) : Blk (w.drewN n) b c t := h
theorem own_drew {w : World} {base size n : Nat} {e : TypeId} {v : Value} {xs : List Value} (h : w.ownsRow base e size v n xs) : w.drew.ownsRow base e size v n xs := h
theorem own_drewN {w : World} {base size n : Nat} {e : TypeId} {v : Value} {xs : List Value} (h : w.ownsRow base e size v n xs) (k : Nat) : (w.drewN k).ownsRow base e size v n xs := h
/-- The cells of a Search. -/
def scells (A : Option Addr) (len cap : Nat) (v : Value) (s : GS) : Array Value :=
  #[.slice A len cap, .pointer none, .pointer none, .pointer none, .bool false, v, .int .i64 s.w, .int .i64 s.n, .bool s.ok, .int .i64 0, .int .i64 0, .int .i64 0, .int .i64 0, .int .i64 0]
/-- What holds while the document's search runs, from the world w0 on. -/
def RS (w0 : World) (g : Nat) (A : Option Addr) (len cap : Nat) (s : GS) (w : World) : Prop :=
  Below w0.heap.size w0 w ∧ w0.heap.size ≤ g ∧ ∃ v, Blk w g (scells A len cap v s) 39 ∧ w.ownsRow w0.heap.size 3 1 v s.asked.length (s.asked.map (Value.int .i64))

set_option maxRecDepth 100000 in
set_option maxHeartbeats 8000000 in
theorem rask_c (w0 : World) (g : Nat) (A : Option Addr) (len cap : Nat) (T : Nat → Int × Bool) (s : GS) (x : Int) (w : World) (hT : TabAt w0 A len T) (hlen : len ≤ 9223372036854775807) (hl : s.asked.length ≤ 7) (h0 : 0 ≤ x) (h1 : x ≤ 34) (h : RS w0 g A len cap s w) :
    Calls Try.prog 13 #[.pointer (some ⟨g, 0, none⟩), .int .i64 x] w fun e w' => e = .returned (.agg #[.int .i64 (tabV T len x).1, .bool (tabV T len x).2]) ∧ RS w0 g A len cap (gask (tabV T len) x s) w' ∧ Keeps 27 w w' := by
  obtain ⟨hb, hg, v, hv, hown⟩ := h
  obtain ⟨i0, hi, hz0, hz1, hz2⟩ := info_parts infoInt
  obtain ⟨y1, c1, f1, -, -, r1⟩ := hv.facts
  unfold scells at c1
  have HB := Lib.hid hb
  have HV := Lib.hid hv
  have HO := Lib.hid hown
  have HT := Lib.hid hT
  clear hb hv hown hT r1
  go_enter Try.func13, Try.ntmps13
  go_wp2_with (at_builtin; refine wpList_append_own _ rfl _ _ 23 rfl w0.heap.size 3 i0 (.int .i64 0) 1 8 Try.underlying23 hi hz0 hz1 hz2 rfl (by decide) _ _ _ rfl ((HO.out.alloc _).alloc _) ⟨w.heap.size + 1, 0, none⟩ 1 1 [.int .i64 x] rfl rfl ?c1 ?c2 ?c3 ?c4 ?c5 ?_)
  case c1 =>
    intro j u hj
    match j, hj with
    | 0, hj => simp at hj; subst hj; simp [Addr.add]
  case c2 => intro u hu; simp at hu; subst hu; rfl
  case c3 => unfold maxLen; omega
  case c4 => omega
  case c5 => have := HB.out.size; simp; omega
  intro v' w1 hown' hgrow _
  obtain ⟨g', cap', rfl⟩ := own_form hown' (by omega)
  have hn1 := own_ne HO.out HV.out (by decide)
  have hn3 := own_ne ((HO.out.alloc (.cells #[.int .i64 0, .bool false] 27))) (Blk.new w #[.int .i64 0, .bool false] 27) (by decide)
  have HV1 := Lib.hid (((HV.out.alloc _).alloc _).grown hgrow hn1)
  have HR1 := Lib.hid (((Blk.new w #[.int .i64 0, .bool false] 27).alloc _).grown hgrow hn3)
  have HB1 := Lib.hid (Below.grown (Nat.le_refl _) ((HB.out.alloc HB.out.size _).alloc (by have := HB.out.size; simp; omega) _) hgrow (fun g hg => (HO.out.lt g hg).1))
  have HK1 : Hid (Keeps 27 w w1) := show Keeps _ _ _ from ⟨by have := hgrow.size; simp at this; omega, fun k cs hk => ((hk.alloc _).alloc _).grown hgrow (own_ne HO.out hk (by decide))⟩
  have hbs0 := HB.out.size
  have HO1 := Lib.hid hown'
  have HN1 := Lib.hid (own_ne hown' HV1.out (by decide))
  have ne1 : ¬ (w.heap.size = g) := by omega
  have ne2 : ¬ (g = w.heap.size) := by omega
  have hg1 : g' ≠ g := by have := HN1.out; simpa [Value.ownBlock] using this
  have hg2 : g' ≠ w.heap.size := by have := own_ne hown' HR1.out (by decide); simpa [Value.ownBlock] using this
  have hg3 : g' < w1.heap.size := (hown'.lt g' rfl).2
  clear c1 f1 y1 hown' hgrow hn1 hn3
  obtain ⟨y1, c1, f1, -, -, -⟩ := HV1.out.facts
  obtain ⟨y2, c2, f2, -, -, -⟩ := HR1.out.facts
  unfold scells at c1
  obtain ⟨sw, hsw⟩ : ∃ k, k = s.w := ⟨_, rfl⟩
  obtain ⟨sn, hsn⟩ : ∃ k, k = s.n := ⟨_, rfl⟩
  obtain ⟨so, hso⟩ : ∃ k, k = s.ok := ⟨_, rfl⟩
  simp only [← hsw, ← hsn, ← hso] at c1
  have HW := Lib.hid hsw
  have HN := Lib.hid hsn
  have HS := Lib.hid hso
  clear hsw hsn hso
  obtain ⟨i, rfl⟩ : ∃ i : Nat, x = i := ⟨x.toNat, by omega⟩
  by_cases hx : i < len
  · obtain ⟨b, o, rfl, hbl, t1, t2⟩ := HT.out i hx
    have hx' : (i : Int) < (len : Int) := by omega
    have s1 : w1.cell? ⟨b, o + i * 2, none⟩ = some (.int .i64 (T i).1) := (HB1.out.cell (p := ⟨b, o + i * 2, none⟩) hbl).trans t1
    have s2 : w1.cell? ⟨b, o + i * 2 + 1, none⟩ = some (.bool (T i).2) := (HB1.out.cell (p := ⟨b, o + i * 2 + 1, none⟩) hbl).trans t2
    have hbs := HB1.out.size
    have yb1 : b < w1.heap.size := by omega
    have yb2 : b < w1.heap.size + 1 := by omega
    have nB1 : ¬ b = g := by omega
    have nB2 : ¬ b = w1.heap.size := by omega
    have nB3 : ¬ b = w1.heap.size + 1 := by omega
    have yg2 : g < w1.heap.size + 1 := by omega
    have yw2 : w.heap.size < w1.heap.size + 1 := by omega
    have nG2 : ¬ g = w1.heap.size := by omega
    have nG3 : ¬ g = w1.heap.size + 1 := by omega
    have nw2 : ¬ w.heap.size = w1.heap.size := by omega
    have nw3 : ¬ w.heap.size = w1.heap.size + 1 := by omega
    have E : Hid (tabV T len i = T i) := by show tabV T len i = T i; unfold tabV; rw [if_pos hx']; rfl
    clear t1 t2
    generalize T i = np at *
    obtain ⟨n, p⟩ := np
    simp only at s1 s2
    have GA : Hid (better (tabV T len) i s = (p && (!so || decide (n < sn) || (n == sn && decide ((i : Int) < sw))))) := by unfold better; rw [E.out, HW.out, HN.out, HS.out]; exact rfl
    cases p
    · have GB : Hid (better (tabV T len) i s = false) := by rw [GA.out]; exact rfl
      clear GA
      go_wp2_with fail
      go_quiet (fail)
      go_wp2
      refine bodyPost_row 2 #[.int .i64 n, .bool false] rfl rfl rfl Try.underlying27 rfl (by kernel_rfl) (row_of_cells 1 _ rfl (by intro i hi; rcases i with _ | _ | i; (go_simp); (go_simp); exact absurd hi (by omega))) ⟨by rw [E.out], ⟨(by repeat (first | with_reducible exact HB1.out | with_reducible refine Below.drew ?_ | with_reducible refine rbelow_drewN ?_ _ | (with_reducible refine Below.alloc ?_ ?hB _; case hB => (first | omega | (simp; omega))) | (with_reducible refine Below.setCell ?_ ?hB _; case hB => (first | omega | (simp; omega))))), hg, .slice (some ⟨g', 0, none⟩) (s.asked.length + 1) cap', ?_, ?_⟩, ?_⟩; (focus (apply Blk.of_eq; (focus ((repeat (first | with_reducible exact HV1.out | with_reducible apply Blk.alloc | with_reducible apply Blk.drew | with_reducible apply blk_drewN | with_reducible apply Blk.setCell_same (b := g) | (with_reducible apply Blk.setCell_other; case hne => (first | omega | (simp; done) | (simp; omega))))))); (focus (first | (simp [scells, gask_w, gask_n, gask_ok, GB.out, HW.out.symm, HN.out.symm, HS.out.symm, E.out]; done) | (simp [scells, gask_w, gask_n, gask_ok, GB.out, HW.out.symm, HN.out.symm, HS.out.symm, E.out]; omega) | rfl)))); (focus (rw [gask_len, List.length_append, List.map_append]; simp only [List.length_cons, List.length_nil, List.map_cons, List.map_nil, Nat.zero_add]; (repeat (first | with_reducible exact HO1.out | with_reducible apply World.ownsRow.alloc | with_reducible apply own_drew | with_reducible apply own_drewN | (with_reducible apply ownsRow_setCell_other; case ha => (first | (simp [Value.ownBlock]; done) | (simp [Value.ownBlock]; omega))))))); exact ⟨(by have := HK1.out.1; first | omega | (simp; omega)), fun k cs hk => (by have h1 := hk.lt; have h2 := Blk.ne hk HV.out (by decide); have h3 := HK1.out.1; have h4 := HK1.out.2 k cs hk; repeat (first | with_reducible exact h4 | with_reducible apply Blk.alloc | with_reducible apply Blk.drew | with_reducible apply blk_drewN | (with_reducible apply Blk.setCell_other; case hne => (first | omega | (simp; done) | (simp; omega)))))⟩
    · cases so
      · have GB : Hid (better (tabV T len) i s = true) := by rw [GA.out]; exact rfl
        clear GA
        go_wp2_with fail
        go_quiet (fail)
        go_wp2_with fail
        go_region
        all_goals go_wp2
        all_goals (refine bodyPost_row 2 #[.int .i64 n, .bool true] rfl rfl rfl Try.underlying27 rfl (by kernel_rfl) (row_of_cells 1 _ rfl (by intro i hi; rcases i with _ | _ | i; (go_simp); (go_simp); exact absurd hi (by omega))) ⟨by rw [E.out], ⟨(by repeat (first | with_reducible exact HB1.out | with_reducible refine Below.drew ?_ | with_reducible refine rbelow_drewN ?_ _ | (with_reducible refine Below.alloc ?_ ?hB _; case hB => (first | omega | (simp; omega))) | (with_reducible refine Below.setCell ?_ ?hB _; case hB => (first | omega | (simp; omega))))), hg, .slice (some ⟨g', 0, none⟩) (s.asked.length + 1) cap', ?_, ?_⟩, ?_⟩; (focus (apply Blk.of_eq; (focus ((repeat (first | with_reducible exact HV1.out | with_reducible apply Blk.alloc | with_reducible apply Blk.drew | with_reducible apply blk_drewN | with_reducible apply Blk.setCell_same (b := g) | (with_reducible apply Blk.setCell_other; case hne => (first | omega | (simp; done) | (simp; omega))))))); (focus (first | (simp [scells, gask_w, gask_n, gask_ok, GB.out, HW.out.symm, HN.out.symm, HS.out.symm, E.out]; done) | (simp [scells, gask_w, gask_n, gask_ok, GB.out, HW.out.symm, HN.out.symm, HS.out.symm, E.out]; omega) | rfl)))); (focus (rw [gask_len, List.length_append, List.map_append]; simp only [List.length_cons, List.length_nil, List.map_cons, List.map_nil, Nat.zero_add]; (repeat (first | with_reducible exact HO1.out | with_reducible apply World.ownsRow.alloc | with_reducible apply own_drew | with_reducible apply own_drewN | (with_reducible apply ownsRow_setCell_other; case ha => (first | (simp [Value.ownBlock]; done) | (simp [Value.ownBlock]; omega))))))); exact ⟨(by have := HK1.out.1; first | omega | (simp; omega)), fun k cs hk => (by have h1 := hk.lt; have h2 := Blk.ne hk HV.out (by decide); have h3 := HK1.out.1; have h4 := HK1.out.2 k cs hk; repeat (first | with_reducible exact h4 | with_reducible apply Blk.alloc | with_reducible apply Blk.drew | with_reducible apply blk_drewN | (with_reducible apply Blk.setCell_other; case hne => (first | omega | (simp; done) | (simp; omega)))))⟩)
      · by_cases h1 : n < sn
        · have GB : Hid (better (tabV T len) i s = true) := by show better (tabV T len) i s = _; rw [GA.out]; simp [h1]
          clear GA
          go_wp2_with fail
          go_quiet (fail)
          go_wp2_with fail
          go_region
          all_goals go_wp2
          all_goals (refine bodyPost_row 2 #[.int .i64 n, .bool true] rfl rfl rfl Try.underlying27 rfl (by kernel_rfl) (row_of_cells 1 _ rfl (by intro i hi; rcases i with _ | _ | i; (go_simp); (go_simp); exact absurd hi (by omega))) ⟨by rw [E.out], ⟨(by repeat (first | with_reducible exact HB1.out | with_reducible refine Below.drew ?_ | with_reducible refine rbelow_drewN ?_ _ | (with_reducible refine Below.alloc ?_ ?hB _; case hB => (first | omega | (simp; omega))) | (with_reducible refine Below.setCell ?_ ?hB _; case hB => (first | omega | (simp; omega))))), hg, .slice (some ⟨g', 0, none⟩) (s.asked.length + 1) cap', ?_, ?_⟩, ?_⟩; (focus (apply Blk.of_eq; (focus ((repeat (first | with_reducible exact HV1.out | with_reducible apply Blk.alloc | with_reducible apply Blk.drew | with_reducible apply blk_drewN | with_reducible apply Blk.setCell_same (b := g) | (with_reducible apply Blk.setCell_other; case hne => (first | omega | (simp; done) | (simp; omega))))))); (focus (first | (simp [scells, gask_w, gask_n, gask_ok, GB.out, HW.out.symm, HN.out.symm, HS.out.symm, E.out]; done) | (simp [scells, gask_w, gask_n, gask_ok, GB.out, HW.out.symm, HN.out.symm, HS.out.symm, E.out]; omega) | rfl)))); (focus (rw [gask_len, List.length_append, List.map_append]; simp only [List.length_cons, List.length_nil, List.map_cons, List.map_nil, Nat.zero_add]; (repeat (first | with_reducible exact HO1.out | with_reducible apply World.ownsRow.alloc | with_reducible apply own_drew | with_reducible apply own_drewN | (with_reducible apply ownsRow_setCell_other; case ha => (first | (simp [Value.ownBlock]; done) | (simp [Value.ownBlock]; omega))))))); exact ⟨(by have := HK1.out.1; first | omega | (simp; omega)), fun k cs hk => (by have h1 := hk.lt; have h2 := Blk.ne hk HV.out (by decide); have h3 := HK1.out.1; have h4 := HK1.out.2 k cs hk; repeat (first | with_reducible exact h4 | with_reducible apply Blk.alloc | with_reducible apply Blk.drew | with_reducible apply blk_drewN | (with_reducible apply Blk.setCell_other; case hne => (first | omega | (simp; done) | (simp; omega)))))⟩)
        · by_cases h2 : n = sn
          · subst h2
            by_cases h3 : (i : Int) < sw
            · have GB : Hid (better (tabV T len) i s = true) := by show better (tabV T len) i s = _; rw [GA.out]; simp [h3]
              clear GA
              go_wp2_with fail
              go_quiet (fail)
              go_wp2_with fail
              go_region
              all_goals go_wp2
              all_goals (refine bodyPost_row 2 #[.int .i64 n, .bool true] rfl rfl rfl Try.underlying27 rfl (by kernel_rfl) (row_of_cells 1 _ rfl (by intro i hi; rcases i with _ | _ | i; (go_simp); (go_simp); exact absurd hi (by omega))) ⟨by rw [E.out], ⟨(by repeat (first | with_reducible exact HB1.out | with_reducible refine Below.drew ?_ | with_reducible refine rbelow_drewN ?_ _ | (with_reducible refine Below.alloc ?_ ?hB _; case hB => (first | omega | (simp; omega))) | (with_reducible refine Below.setCell ?_ ?hB _; case hB => (first | omega | (simp; omega))))), hg, .slice (some ⟨g', 0, none⟩) (s.asked.length + 1) cap', ?_, ?_⟩, ?_⟩; (focus (apply Blk.of_eq; (focus ((repeat (first | with_reducible exact HV1.out | with_reducible apply Blk.alloc | with_reducible apply Blk.drew | with_reducible apply blk_drewN | with_reducible apply Blk.setCell_same (b := g) | (with_reducible apply Blk.setCell_other; case hne => (first | omega | (simp; done) | (simp; omega))))))); (focus (first | (simp [scells, gask_w, gask_n, gask_ok, GB.out, HW.out.symm, HN.out.symm, HS.out.symm, E.out]; done) | (simp [scells, gask_w, gask_n, gask_ok, GB.out, HW.out.symm, HN.out.symm, HS.out.symm, E.out]; omega) | rfl)))); (focus (rw [gask_len, List.length_append, List.map_append]; simp only [List.length_cons, List.length_nil, List.map_cons, List.map_nil, Nat.zero_add]; (repeat (first | with_reducible exact HO1.out | with_reducible apply World.ownsRow.alloc | with_reducible apply own_drew | with_reducible apply own_drewN | (with_reducible apply ownsRow_setCell_other; case ha => (first | (simp [Value.ownBlock]; done) | (simp [Value.ownBlock]; omega))))))); exact ⟨(by have := HK1.out.1; first | omega | (simp; omega)), fun k cs hk => (by have h1 := hk.lt; have h2 := Blk.ne hk HV.out (by decide); have h3 := HK1.out.1; have h4 := HK1.out.2 k cs hk; repeat (first | with_reducible exact h4 | with_reducible apply Blk.alloc | with_reducible apply Blk.drew | with_reducible apply blk_drewN | (with_reducible apply Blk.setCell_other; case hne => (first | omega | (simp; done) | (simp; omega)))))⟩)
            · have GB : Hid (better (tabV T len) i s = false) := by show better (tabV T len) i s = _; rw [GA.out]; simp [h3]
              clear GA
              go_wp2_with fail
              go_quiet (fail)
              go_wp2
              refine bodyPost_row 2 #[.int .i64 n, .bool true] rfl rfl rfl Try.underlying27 rfl (by kernel_rfl) (row_of_cells 1 _ rfl (by intro i hi; rcases i with _ | _ | i; (go_simp); (go_simp); exact absurd hi (by omega))) ⟨by rw [E.out], ⟨(by repeat (first | with_reducible exact HB1.out | with_reducible refine Below.drew ?_ | with_reducible refine rbelow_drewN ?_ _ | (with_reducible refine Below.alloc ?_ ?hB _; case hB => (first | omega | (simp; omega))) | (with_reducible refine Below.setCell ?_ ?hB _; case hB => (first | omega | (simp; omega))))), hg, .slice (some ⟨g', 0, none⟩) (s.asked.length + 1) cap', ?_, ?_⟩, ?_⟩; (focus (apply Blk.of_eq; (focus ((repeat (first | with_reducible exact HV1.out | with_reducible apply Blk.alloc | with_reducible apply Blk.drew | with_reducible apply blk_drewN | with_reducible apply Blk.setCell_same (b := g) | (with_reducible apply Blk.setCell_other; case hne => (first | omega | (simp; done) | (simp; omega))))))); (focus (first | (simp [scells, gask_w, gask_n, gask_ok, GB.out, HW.out.symm, HN.out.symm, HS.out.symm, E.out]; done) | (simp [scells, gask_w, gask_n, gask_ok, GB.out, HW.out.symm, HN.out.symm, HS.out.symm, E.out]; omega) | rfl)))); (focus (rw [gask_len, List.length_append, List.map_append]; simp only [List.length_cons, List.length_nil, List.map_cons, List.map_nil, Nat.zero_add]; (repeat (first | with_reducible exact HO1.out | with_reducible apply World.ownsRow.alloc | with_reducible apply own_drew | with_reducible apply own_drewN | (with_reducible apply ownsRow_setCell_other; case ha => (first | (simp [Value.ownBlock]; done) | (simp [Value.ownBlock]; omega))))))); exact ⟨(by have := HK1.out.1; first | omega | (simp; omega)), fun k cs hk => (by have h1 := hk.lt; have h2 := Blk.ne hk HV.out (by decide); have h3 := HK1.out.1; have h4 := HK1.out.2 k cs hk; repeat (first | with_reducible exact h4 | with_reducible apply Blk.alloc | with_reducible apply Blk.drew | with_reducible apply blk_drewN | (with_reducible apply Blk.setCell_other; case hne => (first | omega | (simp; done) | (simp; omega)))))⟩
          · have GB : Hid (better (tabV T len) i s = false) := by show better (tabV T len) i s = _; rw [GA.out]; simp [h1, h2]
            have h2' : (n == sn) = false := by simp [h2]
            clear GA
            go_wp2_with fail
            go_quiet (fail)
            go_wp2
            refine bodyPost_row 2 #[.int .i64 n, .bool true] rfl rfl rfl Try.underlying27 rfl (by kernel_rfl) (row_of_cells 1 _ rfl (by intro i hi; rcases i with _ | _ | i; (go_simp); (go_simp); exact absurd hi (by omega))) ⟨by rw [E.out], ⟨(by repeat (first | with_reducible exact HB1.out | with_reducible refine Below.drew ?_ | with_reducible refine rbelow_drewN ?_ _ | (with_reducible refine Below.alloc ?_ ?hB _; case hB => (first | omega | (simp; omega))) | (with_reducible refine Below.setCell ?_ ?hB _; case hB => (first | omega | (simp; omega))))), hg, .slice (some ⟨g', 0, none⟩) (s.asked.length + 1) cap', ?_, ?_⟩, ?_⟩; (focus (apply Blk.of_eq; (focus ((repeat (first | with_reducible exact HV1.out | with_reducible apply Blk.alloc | with_reducible apply Blk.drew | with_reducible apply blk_drewN | with_reducible apply Blk.setCell_same (b := g) | (with_reducible apply Blk.setCell_other; case hne => (first | omega | (simp; done) | (simp; omega))))))); (focus (first | (simp [scells, gask_w, gask_n, gask_ok, GB.out, HW.out.symm, HN.out.symm, HS.out.symm, E.out]; done) | (simp [scells, gask_w, gask_n, gask_ok, GB.out, HW.out.symm, HN.out.symm, HS.out.symm, E.out]; omega) | rfl)))); (focus (rw [gask_len, List.length_append, List.map_append]; simp only [List.length_cons, List.length_nil, List.map_cons, List.map_nil, Nat.zero_add]; (repeat (first | with_reducible exact HO1.out | with_reducible apply World.ownsRow.alloc | with_reducible apply own_drew | with_reducible apply own_drewN | (with_reducible apply ownsRow_setCell_other; case ha => (first | (simp [Value.ownBlock]; done) | (simp [Value.ownBlock]; omega))))))); exact ⟨(by have := HK1.out.1; first | omega | (simp; omega)), fun k cs hk => (by have h1 := hk.lt; have h2 := Blk.ne hk HV.out (by decide); have h3 := HK1.out.1; have h4 := HK1.out.2 k cs hk; repeat (first | with_reducible exact h4 | with_reducible apply Blk.alloc | with_reducible apply Blk.drew | with_reducible apply blk_drewN | (with_reducible apply Blk.setCell_other; case hne => (first | omega | (simp; done) | (simp; omega)))))⟩
  · have hx' : ¬ (i : Int) < (len : Int) := by omega
    have hbs := HB1.out.size
    have yg2 : g < w1.heap.size + 1 := by omega
    have yw2 : w.heap.size < w1.heap.size + 1 := by omega
    have nG2 : ¬ g = w1.heap.size := by omega
    have nG3 : ¬ g = w1.heap.size + 1 := by omega
    have nw2 : ¬ w.heap.size = w1.heap.size := by omega
    have nw3 : ¬ w.heap.size = w1.heap.size + 1 := by omega
    have E : Hid (tabV T len i = (0, false)) := by show tabV T len i = _; unfold tabV; rw [if_neg hx']
    have GB : Hid (better (tabV T len) i s = false) := by unfold better; rw [E.out]; exact rfl
    go_wp2_with fail
    go_quiet (fail)
    go_wp2
    refine bodyPost_row 2 #[.int .i64 0, .bool false] rfl rfl rfl Try.underlying27 rfl (by kernel_rfl) (row_of_cells 1 _ rfl (by intro i hi; rcases i with _ | _ | i; (go_simp); (go_simp); exact absurd hi (by omega))) ⟨by rw [E.out], ⟨(by repeat (first | with_reducible exact HB1.out | with_reducible refine Below.drew ?_ | with_reducible refine rbelow_drewN ?_ _ | (with_reducible refine Below.alloc ?_ ?hB _; case hB => (first | omega | (simp; omega))) | (with_reducible refine Below.setCell ?_ ?hB _; case hB => (first | omega | (simp; omega))))), hg, .slice (some ⟨g', 0, none⟩) (s.asked.length + 1) cap', ?_, ?_⟩, ?_⟩; (focus (apply Blk.of_eq; (focus ((repeat (first | with_reducible exact HV1.out | with_reducible apply Blk.alloc | with_reducible apply Blk.drew | with_reducible apply blk_drewN | with_reducible apply Blk.setCell_same (b := g) | (with_reducible apply Blk.setCell_other; case hne => (first | omega | (simp; done) | (simp; omega))))))); (focus (first | (simp [scells, gask_w, gask_n, gask_ok, GB.out, HW.out.symm, HN.out.symm, HS.out.symm, E.out]; done) | (simp [scells, gask_w, gask_n, gask_ok, GB.out, HW.out.symm, HN.out.symm, HS.out.symm, E.out]; omega) | rfl)))); (focus (rw [gask_len, List.length_append, List.map_append]; simp only [List.length_cons, List.length_nil, List.map_cons, List.map_nil, Nat.zero_add]; (repeat (first | with_reducible exact HO1.out | with_reducible apply World.ownsRow.alloc | with_reducible apply own_drew | with_reducible apply own_drewN | (with_reducible apply ownsRow_setCell_other; case ha => (first | (simp [Value.ownBlock]; done) | (simp [Value.ownBlock]; omega))))))); exact ⟨(by have := HK1.out.1; first | omega | (simp; omega)), fun k cs hk => (by have h1 := hk.lt; have h2 := Blk.ne hk HV.out (by decide); have h3 := HK1.out.1; have h4 := HK1.out.2 k cs hk; repeat (first | with_reducible exact h4 | with_reducible apply Blk.alloc | with_reducible apply Blk.drew | with_reducible apply blk_drewN | (with_reducible apply Blk.setCell_other; case hne => (first | omega | (simp; done) | (simp; omega)))))⟩
end Go.Proofs.Ytplhfngcmjopcaa
