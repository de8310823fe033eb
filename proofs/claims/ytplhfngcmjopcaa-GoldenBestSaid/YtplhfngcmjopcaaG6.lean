/- The walk of GoldenBest. -/
import Derived.Test.YtplhfngcmjopcaaG5
namespace Go.Proofs.Ytplhfngcmjopcaa
open Go.RowKit

theorem own_below {w w' : World} {base size n : Nat} {e : TypeId} {v : Value} {xs : List Value} (h : w.ownsRow base e size v n xs) (hb : Below w.heap.size w w') : w'.ownsRow base e size v n xs := by
  refine ⟨h.1, ?_⟩
  rcases h.2 with hn | ⟨g', cap', cur, rfl, hb', hgg, rest⟩
  · exact .inl hn
  · exact .inr ⟨g', cap', cur, rfl, hb', (hb.block g' (Array.getElem?_eq_some_iff.1 hgg).1).trans hgg, rest⟩
theorem TabAt.below {w w' : World} {A : Option Addr} {len : Nat} {T : Nat → Int × Bool} (h : TabAt w A len T) (hb : Below w.heap.size w w') : TabAt w' A len T := by
  intro i hi
  obtain ⟨b, o, hA, hl, h1, h2⟩ := h i hi
  exact ⟨b, o, hA, Nat.lt_of_lt_of_le hl hb.size, (hb.cell (p := ⟨b, _, none⟩) hl).trans h1, (hb.cell (p := ⟨b, _, none⟩) hl).trans h2⟩
theorem asks_side {w0 w w' : World} {Ba Bl len cap B : Nat} {A : Option Addr} {l : List Int} (h : Asks w0 Ba Bl A len cap l w) (hs : Side 50 52 B w w') (hB : w0.heap.size ≤ B) : Asks w0 Ba Bl A len cap l w' := by
  obtain ⟨h1, h2, h3, h4, v, h5, h6⟩ := h
  exact ⟨Below.side (Nat.le_refl _) h1 hs hB, h2, h3, h4.side hs (by decide) (by decide), v, h5.side hs (by decide) (by decide), own_side h6 hs (by decide) (by decide)⟩
/-- The cells of a row of ints. -/
theorem own_int {w : World} {base n g cap : Nat} {e : TypeId} {l : List Int} (h : w.ownsRow base e 1 (.slice (some ⟨g, 0, none⟩) n cap) n (l.map (Value.int .i64))) (k : Nat) (hk : k < l.length) : w.cell? ⟨g, k, none⟩ = some (.int .i64 l[k]) := by
  have h1 := h.1
  have := h.cellAt k (by simpa [h1] using (by simpa using h1 : l.length = n) ▸ hk)
  rw [this, List.getElem?_map, List.getElem?_eq_getElem hk]; rfl

set_option maxRecDepth 100000 in
set_option maxHeartbeats 4000000 in
theorem goldenBest_c (A : Option Addr) (len cap : Nat) (T : Nat → Int × Bool) (w : World) (hT : TabAt w A len T) (hlen : len ≤ 9223372036854775807) :
    Calls Try.prog 3 #[.slice A len cap] w fun e w' => e = .returned (.bool true) ∧ Below w.heap.size w w' := by
  have HT := Lib.hid hT
  clear hT
  obtain ⟨V, hV⟩ : ∃ V, V = tabV T len := ⟨_, rfl⟩
  have M : Hid (∀ W, W.heap.size = w.heap.size + 1 + 1 → Asks w (w.heap.size + 1) w.heap.size A len cap [] W → Calls Try.prog 5 #[.func (.func 6) #[] #[.pointer (some ⟨w.heap.size + 1, 0, none⟩), .pointer (some ⟨w.heap.size, 0, none⟩)]] W fun e w' =>
      e = .returned (.tuple #[.int .i64 (gfin V).w, .int .i64 (gfin V).n, .bool (gfin V).ok]) ∧ Asks w (w.heap.size + 1) w.heap.size A len cap (gfin V).asked w' ∧ W.heap.size ≤ w'.heap.size) := by
    intro W hW hA
    rw [hV]
    exact best_c 6 _ (tabV T len) (fun l W => Asks w (w.heap.size + 1) w.heap.size A len cap l W) W (by intro args w; rfl)
      (fun _ _ _ hs h => asks_side h hs (by omega))
      (fun l x w1 hl h0 h1 h => clos_c w _ _ A len cap T l x w1 HT.out hlen hl h0 h1 h) hA
  have R : Hid (∀ w0 g W, TabAt w0 A len T → RS w0 g A len cap ⟨[], 0, 0, false⟩ W → Calls Try.prog 7 #[.pointer (some ⟨g, 0, none⟩)] W fun e w' => e = .returned (.tuple #[.int .i64 (gfin V).w, .int .i64 (gfin V).n, .bool (gfin V).ok]) ∧ RS w0 g A len cap (gfin V) w') := by
    intro w0 g W h1 h2
    rw [hV]
    exact rbest_c w0 g A len cap T W h1 hlen h2
  have hL : (gfin V).asked.length = 7 := by have := (giter_ok V 6 (by decide)).2.2; exact this
  clear hV
  generalize gfin V = s at *
  obtain ⟨l, sw, sn, so⟩ := s
  simp only at hL M R
  have HL := Lib.hid hL
  go_enter Try.func3, Try.ntmps3
  go_wp2_with fail
  refine (M.out _ (by simp) ⟨((Below.refl _ _).alloc (Nat.le_refl _) _).alloc (by simp) _, by omega, Nat.le_refl _, (Blk.new w _ _).alloc _, _, Blk.new' _ _ _ (by simp), World.ownsRow_nil _ _ _ _⟩).mono ?_
  rintro e w1 ⟨rfl, ⟨hb1, -, -, hl1, v, hv1, hown1⟩, hz1⟩
  simp at hz1
  obtain ⟨ga, capa, rfl⟩ := own_form hown1 (by omega)
  obtain ⟨y0, c0, f0, -, -, r0⟩ := hl1.facts
  have HB1 := Lib.hid hb1
  have HL1 := Lib.hid hl1
  have HV1 := Lib.hid hv1
  have HO1 := Lib.hid hown1
  clear hb1 hl1 hv1 hown1 hL
  go_wp2_with fail
  refine (R.out w1 w1.heap.size _ (HT.out.below HB1.out) ⟨(Below.refl _ _).alloc (Nat.le_refl _) _, Nat.le_refl _, .slice none 0 0, Blk.new w1 _ _, World.ownsRow_nil _ _ _ _⟩).mono ?_
  rintro e w2 ⟨rfl, hb2, -, v2, hg2, hown2⟩
  obtain ⟨gb, capb, rfl⟩ := own_form hown2 (by have := HL.out; simp only; omega)
  have HB2 := Lib.hid (HB1.out.trans (hb2.mono HB1.out.size))
  have HV2 := Lib.hid (HV1.out.keep hb2)
  have HO2a := Lib.hid (own_below HO1.out hb2)
  have HO2b := Lib.hid hown2
  have HG2 := Lib.hid hg2
  clear hb2 hg2 hown2 c0 f0 r0 y0
  obtain ⟨y1, c1, f1, -, -, r1⟩ := HV2.out.facts
  obtain ⟨y2, c2, f2, -, -, -⟩ := HG2.out.facts
  unfold scells at c2
  have HL7 : l.length = 7 := HL.out
  simp only [HL7] at c1 c2
  go_wp2_with fail
  go_quiet (fail)
  go_wp2_with fail
  go_loopw [55] (fun i wr => ∃ k : Nat, k ≤ 7 ∧ i = .int .i64 k ∧ ∃ n, wr = w2.drewN n) (fun i _ => 7 - (intOf i).toNat)
  case atStart => exact ⟨0, by omega, rfl, _, rfl⟩
  case round =>
    obtain ⟨k, hk, rfl, n, rfl⟩ := hrel
    by_cases hlt : k < 7
    · have a1 : w2.cell? ⟨ga, k, none⟩ = some (.int .i64 (l[k]'(by omega))) := own_int HO2a.out k (by omega)
      have a2 : w2.cell? ⟨gb, k, none⟩ = some (.int .i64 (l[k]'(by omega))) := own_int HO2b.out k (by omega)
      generalize l[k]'(by omega) = u at a1 a2
      have k1 : (k : Int) < 7 := by omega
      have k2 : (0 : Int) ≤ k := by omega
      have k3 : wrap64 ((k : Int) + 1) = ((k + 1 : Nat) : Int) := by unfold wrap64; omega
      go_wp2_with fail
      go_quiet (fail)
      go_wp2_with fail
      go_roundw
      case rel => exact ⟨k + 1, by omega, by go_num, _, rfl⟩
      case measure => simp [intOf]; omega
    · obtain rfl : k = 7 := by omega
      go_wp2_with fail
      refine (best_nil _).mono ?_
      rintro e w3 ⟨rfl, hb3⟩
      have HB3 := Lib.hid (HB2.out.trans ((show Below w2.heap.size w2 w3 from ⟨hb3.os, hb3.tape, hb3.output, hb3.size, hb3.block⟩).mono HB2.out.size))
      have z3 : w2.heap.size ≤ w3.heap.size := hb3.size
      clear hb3
      go_wp2_with fail
      refine (awake7_c _).mono ?_
      rintro e w4 ⟨rfl, hb4⟩
      go_wp2_with fail
      go_ret
      exact ⟨rfl, HB3.out.trans (hb4.mono (by have := HB2.out.size; omega))⟩
end Go.Proofs.Ytplhfngcmjopcaa
