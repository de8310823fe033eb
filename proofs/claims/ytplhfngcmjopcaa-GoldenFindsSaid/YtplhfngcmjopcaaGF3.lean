/- The closure of GoldenFinds that counts what is asked. -/
import Derived.Test.YtplhfngcmjopcaaGF2
namespace Go.Proofs.Ytplhfngcmjopcaa
open Go.RowKit

theorem zeroInt (w : World) : (zeroValue 3).run Try.prog w = .ok (.int .i64 0) w := by kernel_rfl
/-- What holds while it is searched. -/
def Fnd (w0 : World) (Bm m Bv Bt Bs : Nat) (A : Option Addr) (len cap : Nat) (at' : Int) (l : List Int) (w : World) : Prop :=
  Below w0.heap.size w0 w ∧ (w0.heap.size ≤ Bm ∧ w0.heap.size ≤ m ∧ w0.heap.size ≤ Bv ∧ w0.heap.size ≤ Bt ∧ w0.heap.size ≤ Bs) ∧ Blk w Bm #[.map (some m)] 46 ∧
    Blk w Bv #[.func (.func 9) #[] #[.pointer (some ⟨Bt, 0, none⟩), .pointer (some ⟨Bs, 0, none⟩)]] 45 ∧ Blk w Bt #[.int .i64 at'] 3 ∧ Blk w Bs #[.slice A len cap] 43 ∧
    w.ownsMap Try.prog 3 (plainElem (H := Unit) Try.prog 3) m l.length (DL l)
theorem map_ne {H : Type} {w : World} {P : Program} {k : TypeId} {R : Value → Option (DataW H × List MemPlace)} {m n : Nat} {D : DataW H} {b : Nat} {c : Array Value} {t : TypeId} (h : w.ownsMap P k R m n D) (hb : Blk w b c t) : m ≠ b := by
  obtain ⟨es, clock, h, -⟩ := h
  rintro rfl
  unfold Blk at hb
  rw [hb] at h
  cases h
theorem map_side {H : Type} {w w' : World} {P : Program} {k : TypeId} {R : Value → Option (DataW H × List MemPlace)} {m n : Nat} {D : DataW H} {t u : TypeId} {B : Nat} (h : w.ownsMap P k R m n D) (hs : Side t u B w w') : w'.ownsMap P k R m n D := by
  obtain ⟨es, clock, hm, rest⟩ := h
  refine ⟨es, clock, ?_, rest⟩
  rw [hs.2.2.2.2 m (by rcases Nat.lt_or_ge m w.heap.size with h | h; exact h; rw [Array.getElem?_eq_none h] at hm; cases hm) (fun _ cs => ⟨fun hc => (by unfold Blk at hc; rw [hc] at hm; cases hm), fun hc => (by unfold Blk at hc; rw [hc] at hm; cases hm)⟩)]
  exact hm
theorem map_below {H : Type} {w w' : World} {P : Program} {k : TypeId} {R : Value → Option (DataW H × List MemPlace)} {m n : Nat} {D : DataW H} (h : w.ownsMap P k R m n D) (hb : Below w.heap.size w w') : w'.ownsMap P k R m n D := by
  obtain ⟨es, clock, hm, rest⟩ := h
  exact ⟨es, clock, (hb.block m (by rcases Nat.lt_or_ge m w.heap.size with h | h; exact h; rw [Array.getElem?_eq_none h] at hm; cases hm)).trans hm, rest⟩
theorem steps_below {w w' : World} {A : Option Addr} {len : Nat} {T : Nat → Int} (h : StepsAt w A len T) (hb : Below w.heap.size w w') : StepsAt w' A len T := by
  intro i hi
  obtain ⟨b, o, hA, hl, h1⟩ := h i hi
  exact ⟨b, o, hA, Nat.lt_of_lt_of_le hl hb.size, (hb.cell (p := ⟨b, _, none⟩) hl).trans h1⟩
theorem fnd_side {w0 w w' : World} {Bm m Bv Bt Bs len cap B : Nat} {A : Option Addr} {at' : Int} {l : List Int} (h : Fnd w0 Bm m Bv Bt Bs A len cap at' l w) (hs : Side 50 52 B w w') (hB : w0.heap.size ≤ B) : Fnd w0 Bm m Bv Bt Bs A len cap at' l w' := by
  obtain ⟨h1, h2, h3, h4, h5, h6, h7⟩ := h
  exact ⟨Below.side (Nat.le_refl _) h1 hs hB, h2, h3.side hs (by decide) (by decide), h4.side hs (by decide) (by decide), h5.side hs (by decide) (by decide), h6.side hs (by decide) (by decide), map_side h7 hs⟩
theorem fnd_below {w0 w w' : World} {Bm m Bv Bt Bs len cap : Nat} {A : Option Addr} {at' : Int} {l : List Int} (h : Fnd w0 Bm m Bv Bt Bs A len cap at' l w) (hb : Below w.heap.size w w') : Fnd w0 Bm m Bv Bt Bs A len cap at' l w' := by
  obtain ⟨h1, h2, h3, h4, h5, h6, h7⟩ := h
  exact ⟨h1.trans (hb.mono h1.size), h2, h3.keep hb, h4.keep hb, h5.keep hb, h6.keep hb, map_below h7 hb⟩

set_option maxRecDepth 100000 in
set_option maxHeartbeats 1000000 in
theorem fcl_c (w0 : World) (Bm m Bv Bt Bs : Nat) (A : Option Addr) (len cap : Nat) (T : Nat → Int) (at' : Int) (l : List Int) (x : Int) (w : World) (hT : StepsAt w0 A len T) (hlen : len ≤ 9223372036854775807) (ha : 1 ≤ at' ∧ at' ≤ 33) (hl : l.length ≤ 7) (h0 : 0 ≤ x) (h1 : x ≤ 34)
    (h : Fnd w0 Bm m Bv Bt Bs A len cap at' l w) :
    Calls Try.prog 10 (#[.int .i64 x] ++ #[.pointer (some ⟨Bm, 0, none⟩), .pointer (some ⟨Bv, 0, none⟩)]) w fun e w' => e = .returned (.tuple #[.int .i64 (valV T len at' x).1, .bool (valV T len at' x).2]) ∧
      Fnd w0 Bm m Bv Bt Bs A len cap at' (l ++ [x]) w' ∧ Keeps 50 w w' ∧ Keeps 52 w w' := by
  obtain ⟨hb, hB, hm, hv, ht, hs, hown⟩ := h
  obtain ⟨y0, c0, f0, -, -, -⟩ := hm.facts
  obtain ⟨y1, c1, f1, -, -, -⟩ := hv.facts
  have n1 := map_ne hown hm
  have n2 := map_ne hown hv
  have n3 := map_ne hown ht
  have n4 := map_ne hown hs
  have HBE := Lib.hid hb
  have HM := Lib.hid hm
  have HV := Lib.hid hv
  have HTT := Lib.hid ht
  have HS := Lib.hid hs
  have HO := Lib.hid hown
  have HT := Lib.hid hT
  clear hb hm hv ht hs hown hT
  have hkey : keyOf Try.prog 3 (.int .i64 x) = some (.int .i64 x) := Maps.keyOf_int_mk Try.underlying3 (by have := wrap64_wf x; rwa [show wrap64 x = x by unfold wrap64; omega] at this)
  show Calls Try.prog 10 #[.int .i64 x, .pointer (some ⟨Bm, 0, none⟩), .pointer (some ⟨Bv, 0, none⟩)] w _
  go_enter Try.func10, Try.ntmps10
  go_wp2_with (first
    | (at_lookup; refine wpList_lookup_own_int _ rfl _ _ 46 rfl 3 3 .i64 lawInt Try.underlying46 Try.underlying3 (zeroInt _) m _ _ rfl HO.out _ _ rfl hkey ?_; intro c hat hwc)
    | (at_mapUpdate; refine wpList_mapUpdate_own _ rfl _ _ _ 46 rfl 3 3 lawInt Try.underlying46 _ m _ _ rfl HO.out (by unfold maxLen; omega) _ _ _ rfl rfl hkey _ [] (plainElem_int Try.underlying3 (wrap64_wf _)) ?_; intro w1 hown1 hgrow1; have HV1 := Lib.hid (HV.out.grown hgrow1 (by simpa using n2)); obtain ⟨y3, c3, f3, -, -, -⟩ := HV1.out.facts; have HO1 := Lib.hid hown1; have HG1 := Lib.hid hgrow1; clear hown1 hgrow1)
    | (go_at_call 9; refine (val_c Bt Bs A len cap T at' x _ (steps_below HT.out (Below.grown (Nat.le_refl _) HBE.out HG1.out (fun g hg => by cases hg; exact hB.2.1))) hlen ha ⟨h0, h1⟩ (HTT.out.grown HG1.out (by simpa using n3)) (HS.out.grown HG1.out (by simpa using n4))).mono ?_; rintro e w2 ⟨rfl, hb2⟩))
  go_ret2
  refine ⟨rfl, fnd_below ⟨Below.grown (Nat.le_refl _) HBE.out HG1.out (fun g hg => by cases hg; exact hB.2.1), hB, HM.out.grown HG1.out (by simpa using n1), HV1.out, HTT.out.grown HG1.out (by simpa using n3), HS.out.grown HG1.out (by simpa using n4), ?_⟩ hb2, ?_, ?_⟩
  · rw [DL_snoc, List.length_append]
    have hc : cntK (DL l) x = c := by unfold cntK; rw [hat]
    rw [hc]
    exact HO1.out
  · exact ⟨Nat.le_trans HG1.out.size hb2.size, fun k cs hk => (hk.grown HG1.out (by simpa using map_ne HO.out hk)).keep hb2⟩
  · exact ⟨Nat.le_trans HG1.out.size hb2.size, fun k cs hk => (hk.grown HG1.out (by simpa using map_ne HO.out hk)).keep hb2⟩
end Go.Proofs.Ytplhfngcmjopcaa
