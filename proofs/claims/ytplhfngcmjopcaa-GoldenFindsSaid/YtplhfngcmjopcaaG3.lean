/- The walk of awake, and of the closure of GoldenBest. -/
import Derived.Test.YtplhfngcmjopcaaG2
import Derived.OwnWalk
import Derived.Laws.OwnMore
import Derived.OneCell
namespace Go.Proofs.Ytplhfngcmjopcaa
open Go.RowKit

theorem Below.grown {B : Nat} {a w w' : World} {row : Option Nat} (hB : B ≤ a.heap.size) (h : Below B a w) (hg : w.grownBy w' row) (hr : ∀ g, row = some g → B ≤ g) : Below B a w' :=
  ⟨hg.os.trans h.os, hg.tape.trans h.tape, hg.output.trans h.output, Nat.le_trans h.size hg.size, fun k hk => by
    rw [hg.block k (by have := h.size; omega) (fun e => by have := hr k e.symm; omega)]; exact h.block k hk⟩
theorem own_ne {w : World} {g : Nat} {t e : TypeId} {cs : Array Value} {base size n : Nat} {v : Value} {xs : List Value} (h : w.ownsRow base e size v n xs) (hg : Blk w g cs t) (hne : e ≠ t) : v.ownBlock ≠ some g := by
  rcases h.2 with ⟨rfl, _⟩ | ⟨g', cap, cur, rfl, _, hh, _⟩
  · simp [Value.ownBlock]
  · intro he
    have : g' = g := by simpa [Value.ownBlock] using he
    subst this
    exact Blk.ne (t := e) hh hg hne rfl
theorem own_form {w : World} {base size n : Nat} {e : TypeId} {v : Value} {xs : List Value} (h : w.ownsRow base e size v n xs) (hn : 0 < n) : ∃ g cap, v = .slice (some ⟨g, 0, none⟩) n cap := by
  rcases h.2 with ⟨-, h⟩ | ⟨g', cap', cur, h, -⟩
  · omega
  · exact ⟨_, _, h⟩
theorem Blk.grown {w w' : World} {g : Nat} {t : TypeId} {cs : Array Value} {row : Option Nat} (h : Blk w g cs t) (hb : w.grownBy w' row) (hg : row ≠ some g) : Blk w' g cs t := (hb.block g h.lt (Ne.symm hg)).trans h
theorem own_side {t u e : TypeId} {B base size n : Nat} {w w' : World} {v : Value} {xs : List Value} (h : w.ownsRow base e size v n xs) (hs : Side t u B w w') (h1 : e ≠ t) (h2 : e ≠ u) : w'.ownsRow base e size v n xs := by
  refine ⟨h.1, ?_⟩
  rcases h.2 with hn | ⟨g, cap, cur, rfl, hb, hgg, rest⟩
  · exact .inl hn
  · refine .inr ⟨g, cap, cur, rfl, hb, ?_, rest⟩
    rw [hs.2.2.2.2 g (Array.getElem?_eq_some_iff.1 hgg).1 (fun _ cs => ⟨fun hc => Blk.ne (t := e) hgg hc h1 rfl, fun hc => Blk.ne (t := e) hgg hc h2 rfl⟩)]
    exact hgg
theorem Blk.side {t u t' : TypeId} {B g : Nat} {w w' : World} {cs : Array Value} (h : Blk w g cs t') (hs : Side t u B w w') (h1 : t' ≠ t) (h2 : t' ≠ u) : Blk w' g cs t' :=
  (hs.2.2.2.2 g h.lt (fun _ _ => ⟨fun hc => Blk.ne h hc h1 rfl, fun hc => Blk.ne h hc h2 rfl⟩)).trans h
theorem Below.side {t u : TypeId} {B b : Nat} {a w w' : World} (ha : b ≤ a.heap.size) (h : Below b a w) (hs : Side t u B w w') (hb : b ≤ B) : Below b a w' :=
  ⟨hs.1.trans h.os, hs.2.1.trans h.tape, hs.2.2.1.trans h.output, Nat.le_trans h.size hs.2.2.2.1, fun k hk => by
    rw [hs.2.2.2.2 k (by have := h.size; omega) (fun hB => by omega)]; exact h.block k hk⟩

/-- The closure of awake. -/
theorem awake_cl (x : Int) (h0 : 0 ≤ x) (h1 : x ≤ 34) (w : World) :
    Calls Try.prog 15 (#[.int .i64 x] ++ #[]) w fun e w' => e = .returned (.tuple #[.int .i64 ((x - 9) * (x - 9)), .bool true]) ∧ w' = w := by
  have e1 : wrap64 (x - 9) = x - 9 := by unfold wrap64; omega
  have e2 : wrap64 ((x - 9) * (x - 9)) = (x - 9) * (x - 9) := by
    have h2 : (x - 9) * (x - 9) ≤ 25 * 25 := by
      rcases Int.le_total (x - 9) 0 with h | h
      · have := Int.mul_le_mul (show 9 - x ≤ 25 by omega) (show 9 - x ≤ 25 by omega) (show 0 ≤ 9 - x by omega) (by decide)
        grind
      · exact Int.mul_le_mul (show x - 9 ≤ 25 by omega) (show x - 9 ≤ 25 by omega) h (by decide)
    have h3 : 0 ≤ (x - 9) * (x - 9) := by
      rcases Int.le_total (x - 9) 0 with h | h
      · exact Int.mul_nonneg_of_nonpos_of_nonpos h h
      · exact Int.mul_nonneg h h
    unfold wrap64
    omega
  show Calls Try.prog 15 #[.int .i64 x] w _
  go_enter Try.func15, Try.ntmps15
  go_wp2
  simp only [e2]
  go_ret2
  exact ⟨rfl, rfl⟩
theorem gfin_awake : gfin (fun x => ((x - 9) * (x - 9), true)) = ⟨[13, 21, 8, 5, 10, 7, 9], 9, 0, true⟩ := by rfl
theorem awake7_c (w : World) : Calls Try.prog 8 #[] w fun e w' => e = .returned (.bool true) ∧ Below w.heap.size w w' := by
  have M := Lib.hid (best_c 15 #[] (fun x => ((x - 9) * (x - 9), true)) (fun _ W => Below w.heap.size w W) w (by intro args w; rfl)
    (fun _ w1 w2 hs h => Below.side (Nat.le_refl _) h hs (Nat.le_refl _))
    (fun l x w1 _ h0 h1 h => (awake_cl x h0 h1 w1).mono fun _ _ ⟨he, hw⟩ => by subst hw; exact ⟨he, h, Keeps.refl, Keeps.refl⟩) (Below.refl _ _))
  rw [gfin_awake] at M
  go_enter Try.func8, Try.ntmps8
  go_wp2_with fail
  refine M.out.mono ?_; rintro e w1 ⟨rfl, hb1, _⟩
  go_wp2
  go_ret
  exact ⟨rfl, hb1⟩
set_option maxRecDepth 100000 in
theorem nilFunc_yes (w : World) : Sem.run Try.prog (binOp BinOp.eql 28 Value.nilFunc Value.nilFunc) w = .ok (.bool true) w := by rfl
set_option maxRecDepth 100000 in
theorem best_nil (w : World) : Calls Try.prog 5 #[.nilFunc] w fun e w' => e = .returned (.tuple #[.int .i64 0, .int .i64 0, .bool false]) ∧ Below w.heap.size w w' := by
  have HNF := nilFunc_yes
  go_enter Try.func5, Try.ntmps5
  go_wp2_with fail
  refine wp_scope_labels (fun _ _ _ => False) (fun _ _ _ => 0) (fun _ _ _ h => h.elim) (fun _ => ?_)
  go_wp2_with fail
  simp only [Exit.jumps]
  go_ret3
  exact ⟨rfl, (by repeat (first | exact Below.refl _ _ | exact Below_of_hid (by assumption) | refine Below.drew ?_ | refine below_drewN ?_ _ | refine Below_putRow ?_ (by first | omega | (simp; done) | (simp; omega) | fail) _ _ | refine Below.alloc ?_ (by first | omega | (simp; done) | (simp; omega) | fail) _ | refine Below.setCell ?_ (by first | omega | (simp; done) | (simp; omega) | fail) _ | refine Below.trans ?_ (Below.mono (by assumption) (by first | omega | (simp; done) | (simp; omega) | fail))))⟩

/-- The table: what it gives for a weight. -/
def tabV (T : Nat → Int × Bool) (len : Nat) (x : Int) : Int × Bool := if x < len then T x.toNat else (0, false)
/-- The table's cells. -/
def TabAt (w : World) (A : Option Addr) (len : Nat) (T : Nat → Int × Bool) : Prop :=
  ∀ i : Nat, i < len → ∃ b o, A = some ⟨b, o, none⟩ ∧ b < w.heap.size ∧ w.cell? ⟨b, o + i * 2, none⟩ = some (.int .i64 (T i).1) ∧ w.cell? ⟨b, o + i * 2 + 1, none⟩ = some (.bool (T i).2)
/-- What holds while the table is asked: l has been asked. -/
def Asks (w0 : World) (Ba Bl : Nat) (A : Option Addr) (len cap : Nat) (l : List Int) (w : World) : Prop :=
  Below w0.heap.size w0 w ∧ w0.heap.size ≤ Ba ∧ w0.heap.size ≤ Bl ∧ Blk w Bl #[.slice A len cap] 22 ∧ ∃ v, Blk w Ba #[v] 23 ∧ w.ownsRow w0.heap.size 3 1 v l.length (l.map (Value.int .i64))
theorem infoInt : (Try.prog.info? 3).map (fun i => (i.zero, i.size, i.bytes)) = some (some (.int .i64 0), 1, 8) := by kernel_rfl

set_option maxRecDepth 100000 in
set_option maxHeartbeats 1000000 in
theorem clos_c (w0 : World) (Ba Bl : Nat) (A : Option Addr) (len cap : Nat) (T : Nat → Int × Bool) (l : List Int) (x : Int) (w : World) (hT : TabAt w0 A len T) (hlen : len ≤ 9223372036854775807) (hl : l.length ≤ 7) (h0 : 0 ≤ x) (h1 : x ≤ 34) (h : Asks w0 Ba Bl A len cap l w) :
    Calls Try.prog 6 (#[.int .i64 x] ++ #[.pointer (some ⟨Ba, 0, none⟩), .pointer (some ⟨Bl, 0, none⟩)]) w fun e w' => e = .returned (.tuple #[.int .i64 (tabV T len x).1, .bool (tabV T len x).2]) ∧
      Asks w0 Ba Bl A len cap (l ++ [x]) w' ∧ Keeps 50 w w' ∧ Keeps 52 w w' := by
  obtain ⟨hb, hBa, hBl, hl2, v, hv, hown⟩ := h
  obtain ⟨i0, hi, hz0, hz1, hz2⟩ := info_parts infoInt
  obtain ⟨y0, c0, f0, -, -, r0⟩ := hl2.facts
  obtain ⟨y1, c1, f1, -, -, r1⟩ := hv.facts
  have hne : Ba ≠ Bl := Blk.ne hv hl2 (by decide)
  have HB := Lib.hid hb
  have HL2 := Lib.hid hl2
  have HV := Lib.hid hv
  have HO := Lib.hid hown
  have HT := Lib.hid hT
  clear hb hl2 hv hown hT
  show Calls Try.prog 6 #[.int .i64 x, .pointer (some ⟨Ba, 0, none⟩), .pointer (some ⟨Bl, 0, none⟩)] w _
  go_enter Try.func6, Try.ntmps6
  go_wp2_with (at_builtin; refine wpList_append_own _ rfl _ _ 23 rfl w0.heap.size 3 i0 (.int .i64 0) 1 8 Try.underlying23 hi hz0 hz1 hz2 rfl (by decide) _ _ _ rfl (HO.out.alloc _) ⟨w.heap.size, 0, none⟩ 1 1 [.int .i64 x] rfl rfl ?c1 ?c2 ?c3 ?c4 ?c5 ?_)
  case c1 =>
    intro j u hj
    match j, hj with
    | 0, hj => simp at hj; subst hj; simp [Addr.add]
  case c2 => intro u hu; simp at hu; subst hu; rfl
  case c3 => unfold maxLen; omega
  case c4 => omega
  case c5 => have := HB.out.size; simp; omega
  intro v' w1 hown' hgrow _
  obtain ⟨g', cap', rfl⟩ := own_form hown' (by omega)
  have hn1 := own_ne HO.out HV.out (by decide)
  have hn2 := own_ne HO.out HL2.out (by decide)
  have HV1 := Lib.hid ((HV.out.alloc _).grown hgrow hn1)
  have HL1 := Lib.hid ((HL2.out.alloc _).grown hgrow hn2)
  have HB1 := Lib.hid (Below.grown (Nat.le_refl _) (HB.out.alloc HB.out.size _) hgrow (fun g hg => (HO.out.lt g hg).1))
  have HK1 : Hid (∀ t, 3 ≠ t → Keeps t w w1) := fun t ht => ⟨by have := hgrow.size; simp at this; omega, fun k cs hk => (hk.alloc _).grown hgrow (own_ne HO.out hk ht)⟩
  have HO1 := Lib.hid hown'
  have HN1 := Lib.hid (own_ne hown' HV1.out (by decide))
  clear c0 f0 r0 c1 f1 r1 y0 y1 hown' hgrow hn1 hn2
  obtain ⟨y0, c0, f0, -, -, r0⟩ := HL1.out.facts
  obtain ⟨y1, c1, f1, -, -, r1⟩ := HV1.out.facts
  have nb := hne.symm
  have FIN : Hid (∀ W, (W = w1.setCell ⟨Ba, 0, none⟩ (.slice (some ⟨g', 0, none⟩) (l.length + 1) cap') ∨ W = (w1.setCell ⟨Ba, 0, none⟩ (.slice (some ⟨g', 0, none⟩) (l.length + 1) cap')).drew) → Asks w0 Ba Bl A len cap (l ++ [x]) W ∧ Keeps 50 w W ∧ Keeps 52 w W) := by
    have hk : ∀ t, 3 ≠ t → 23 ≠ t → Keeps t w (w1.setCell ⟨Ba, 0, none⟩ (.slice (some ⟨g', 0, none⟩) (l.length + 1) cap')) := fun t h1 h2 =>
      ⟨by simpa using (HK1.out t h1).1, fun k cs hk => ((HK1.out t h1).2 k cs hk).setCell_other (Ne.symm (Blk.ne HV.out hk h2)) _⟩
    have hA : Asks w0 Ba Bl A len cap (l ++ [x]) (w1.setCell ⟨Ba, 0, none⟩ (.slice (some ⟨g', 0, none⟩) (l.length + 1) cap')) := by
      refine ⟨HB1.out.setCell hBa _, hBa, hBl, Blk.setCell_other HL1.out nb _, _, Blk.of_eq (HV1.out.setCell_same 0 _) rfl, ?_⟩
      have := ownsRow_setCell_other HO1.out (a := ⟨Ba, 0, none⟩) HN1.out (.slice (some ⟨g', 0, none⟩) (l.length + 1) cap')
      simpa using this
    rintro W (rfl | rfl)
    · exact ⟨hA, hk _ (by decide) (by decide), hk _ (by decide) (by decide)⟩
    · exact ⟨⟨hA.1.drew, hA.2⟩, (hk _ (by decide) (by decide)).drew, (hk _ (by decide) (by decide)).drew⟩
  obtain ⟨i, rfl⟩ : ∃ i : Nat, x = i := ⟨x.toNat, by omega⟩
  by_cases hx : i < len
  · obtain ⟨b, o, rfl, hbl, t1, t2⟩ := HT.out i hx
    have hx' : (i : Int) < (len : Int) := by omega
    have s1 : w1.cell? ⟨b, o + i * 2, none⟩ = some (.int .i64 (T i).1) := (HB1.out.cell (p := ⟨b, o + i * 2, none⟩) hbl).trans t1
    have s2 : w1.cell? ⟨b, o + i * 2 + 1, none⟩ = some (.bool (T i).2) := (HB1.out.cell (p := ⟨b, o + i * 2 + 1, none⟩) hbl).trans t2
    have nB1 : ¬ b = Ba := by omega
    have nB2 : ¬ Ba = b := by omega
    have E : Hid (tabV T len i = T i) := by show tabV T len i = T i; unfold tabV; rw [if_pos hx']; rfl
    clear t1 t2
    go_wp2_with fail
    go_region
    all_goals go_wp2_with fail
    all_goals go_ret2
    all_goals exact ⟨by rw [E.out]; rfl, FIN.out _ (.inr rfl)⟩
  · have hx' : ¬ (i : Int) < (len : Int) := by omega
    have E : Hid (tabV T len i = (0, false)) := by show tabV T len i = _; unfold tabV; rw [if_neg hx']
    go_wp2
    go_ret2
    exact ⟨by rw [E.out]; rfl, FIN.out _ (.inl rfl)⟩
end Go.Proofs.Ytplhfngcmjopcaa
