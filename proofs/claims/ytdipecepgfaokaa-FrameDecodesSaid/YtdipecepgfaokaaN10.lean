/- Strings of bytes; what Decode is; the reader's numbers by their places. -/
import Derived.Test.YtdipecepgfaokaaN9
import Derived.Test.YtdipecepgfaokaaN7b
import Derived.Laws.BytesString
namespace Go.Proofs.Ytdipecepgfaokaa
set_option linter.unusedSimpArgs false
set_option linter.unusedVariables false
open Go.RowKit

/-- A string of these bytes. -/
def strB (xs : List Nat) : Value := .string ⟨(xs.map UInt8.ofNat).toArray⟩
theorem ba_toList (l : List UInt8) : (ByteArray.mk l.toArray).toList = l := by rw [ByteArray.toList_eq]
theorem fold_push (ns : List Nat) : ∀ s : List UInt8, (ns.map fun (c : Nat) => (c : Int)).foldl (fun r n => r.push (UInt8.ofNat n.toNat)) (ByteArray.mk s.toArray) = ByteArray.mk (s ++ ns.map UInt8.ofNat).toArray := by
  induction ns with
  | nil => intro s; simp
  | cons n ns ih =>
    intro s
    have h : (ByteArray.mk s.toArray).push (UInt8.ofNat n) = ByteArray.mk (s ++ [UInt8.ofNat n]).toArray := by
      apply ByteArray.ext; simp [ByteArray.push]
    simp only [List.map_cons, List.foldl_cons, Int.toNat_natCast]
    rw [h, ih, List.append_assoc]; rfl
theorem conv_rd {w : World} {v : Value} {xs : List Nat} (h : RdB w v xs) : (convert 30 9 v).run Try.prog w = .ok (strB xs) w := by
  obtain ⟨hy, ao, cap, rfl, hc, H⟩ := h
  rw [run_convert_bytes_string w _ _ _ _ _ _ Try.underlying30 Try.underlying5 Try.underlying9]
  by_cases h0 : xs = []
  · subst h0
    cases ao with
    | none => rfl
    | some a =>
      rw [run_bytesToString w a _ _ [] (by simp [loadCells, loadCellsFrom])]
      rfl
  · have hp := List.length_pos_iff.2 h0
    obtain ⟨b, o, rfl, hb, -⟩ := H 0 hp
    have hl := run_loadCells_list (P := Try.prog) w ⟨b, o, none⟩ ((xs.map fun (c : Nat) => (c : Int)).map (Value.int .u8)) (fun j u hj => by
      rw [List.map_map, List.getElem?_map] at hj
      by_cases hjl : j < xs.length
      · rw [List.getElem?_eq_getElem hjl] at hj
        obtain rfl := Option.some.inj hj
        obtain ⟨b', o', e, _, hv⟩ := H j hjl
        cases e
        rw [Addr.add_lit, hv, List.getD_eq_getElem?_getD, List.getElem?_eq_getElem hjl]; rfl
      · rw [List.getElem?_eq_none (by omega)] at hj; cases hj)
    simp only [List.length_map] at hl
    rw [run_bytesToString w ⟨b, o, none⟩ _ _ (xs.map fun (c : Nat) => (c : Int)) (by simpa using hl)]
    have := fold_push xs []
    simp only [List.nil_append] at this
    exact congrArg (fun z => Result.ok (Value.string z) w) this
theorem ofNat_inj : ∀ (xs ys : List Nat), Byt xs → Byt ys → (xs.map UInt8.ofNat = ys.map UInt8.ofNat ↔ xs = ys) := by
  intro xs
  induction xs with
  | nil => intro ys _ _; cases ys <;> simp
  | cons c xs ih =>
    intro ys hx hy
    cases ys with
    | nil => simp
    | cons d ys =>
      have hc := hx c List.mem_cons_self
      have hd := hy d List.mem_cons_self
      rw [List.map_cons, List.map_cons, List.cons.injEq, List.cons.injEq, ih ys (fun z hz => hx z (List.mem_cons_of_mem _ hz)) (fun z hz => hy z (List.mem_cons_of_mem _ hz))]
      have : UInt8.ofNat c = UInt8.ofNat d ↔ c = d := by
        constructor
        · intro h
          have := congrArg UInt8.toNat h
          simp at this; omega
        · rintro rfl; rfl
      rw [this]
theorem eql_strB (xs ys : List Nat) (hx : Byt xs) (hy : Byt ys) (t : TypeId) (w : World) : (binOp .eql t (strB xs) (strB ys)).run Try.prog w = .ok (.bool (decide (xs = ys))) w := by
  have : ((xs.map UInt8.ofNat) == (ys.map UInt8.ofNat)) = decide (xs = ys) := by
    rw [Bool.eq_iff_iff]; simp [ofNat_inj xs ys hx hy]
  simp only [binOp, strB, Op.stringOp, ba_toList, Sem.run_pure, this]
theorem neq_strB (xs ys : List Nat) (hx : Byt xs) (hy : Byt ys) (t : TypeId) (w : World) : (binOp .neq t (strB xs) (strB ys)).run Try.prog w = .ok (.bool (decide (xs ≠ ys))) w := by
  have : (!((xs.map UInt8.ofNat) == (ys.map UInt8.ofNat))) = decide (xs ≠ ys) := by
    rw [Bool.eq_iff_iff]; simp [ofNat_inj xs ys hx hy]
  simp only [binOp, strB, Op.stringOp, ba_toList, Sem.run_pure, this]
theorem eqg_strB {P : Program} (op : BinOp) (t : TypeId) (x y : Operand) (l m : List Nat) (w : World) : (eqGuard op t x y (strB l) (strB m)).run P w = .ok () w := by
  unfold eqGuard strB; cases op <;> simp
theorem byt_take {l : List Nat} (h : Byt l) (n : Nat) : Byt (l.take n) := fun c hc => h c (List.mem_of_mem_take hc)
theorem byt_drop {l : List Nat} (h : Byt l) (n : Nat) : Byt (l.drop n) := fun c hc => h c (List.mem_of_mem_drop hc)
/-- A number at a place. -/
def nAt (l : List Nat) (off wd : Nat) : Nat := nb ((l.drop off).take wd)
/-- The frame of bytes. -/
def frL (l : List Nat) : FrD :=
  { kind := wrap64 (nAt l 4 1), src := wrap64 (nAt l 5 1), dst := wrap64 (nAt l 6 1), who := wrap64 (nAt l 7 1), boot := wrap64 (nAt l 8 2), seq := wrap64 (nAt l 10 2), stamp := wrap64 (nAt l 12 8), t1 := wrap64 (nAt l 20 8), t2 := wrap64 (nAt l 28 8),
    when := wrap64 (nAt l 36 8), x := wrap32 (nAt l 44 4), y := wrap32 (nAt l 48 4), a := wrap64 (nAt l 52 8), b := wrap64 (nAt l 60 8), d := wrap64 (nAt l 68 8) }
def FrD.zero : FrD := ⟨0, 0, 0, 0, 0, 0, 0, 0, 0, 0, 0, 0, 0, 0, 0⟩
def decE (l : List Nat) : FrD × Int :=
  if l.length < 80 then (FrD.zero, 4)
  else if 80 < l.length ∨ l.take 4 ≠ [97, 108, 105, 49] then (FrD.zero, 5)
  else if nAt l 76 4 ≠ crc (l.take 76) then (FrD.zero, 6)
  else if mayF (frL l) = true then (frL l, 0) else (FrD.zero, 5)
theorem take_at (g : Nat) (v : Value) (l : List Nat) (off wd off' : Nat) (he : off' = off + wd) (h0 : 0 < wd) (hw : off' ≤ l.length) (hl : l.length ≤ 1000000) (w : World) (B : Blk w g #[v] 63) (h : RdB w v (l.drop off)) :
    Calls Try.prog 29 #[.pointer (some ⟨g, 0, none⟩), .int .i64 (wd : Int)] w fun e w' => (∃ v', e = .returned (.int .i64 (wrap64 (nAt l off wd))) ∧ Blk w' g #[v'] 63 ∧ RdB w' v' (l.drop off')) ∧ OnlyAt g w w' := by
  subst he
  have := take_c g v (l.drop off) wd h0 (by rw [List.length_drop]; omega) (by rw [List.length_drop]; omega) w B h
  rw [List.drop_drop] at this; exact this
theorem small_at (g : Nat) (v : Value) (l : List Nat) (off off' : Nat) (he : off' = off + 4) (hw : off' ≤ l.length) (hl : l.length ≤ 1000000) (w : World) (B : Blk w g #[v] 63) (h : RdB w v (l.drop off)) :
    Calls Try.prog 30 #[.pointer (some ⟨g, 0, none⟩)] w fun e w' => (∃ v', e = .returned (.int .i64 (wrap32 (nAt l off 4))) ∧ Blk w' g #[v'] 63 ∧ RdB w' v' (l.drop off')) ∧ OnlyAt g w w' := by
  subst he
  have := small_c g v (l.drop off) (by rw [List.length_drop]; omega) (by rw [List.length_drop]; omega) w B h
  rw [List.drop_drop] at this; exact this
/-- A slice cut: what it reads. -/
theorem RdB.cutL {w : World} {ao : Option Addr} {cap : Nat} {l : List Nat} (h : RdB w (.slice ao l.length cap) l) (n c : Nat) (hn : n ≤ l.length) (hc : n ≤ c) : RdB w (.slice ao n c) (l.take n) := by
  obtain ⟨hy, ao', cap', e, hc', H⟩ := h
  cases e
  refine ⟨byt_take hy n, ao, c, by rw [List.length_take, Nat.min_eq_left hn], by rw [List.length_take]; omega, fun j hj => ?_⟩
  rw [List.length_take] at hj
  obtain ⟨b, o, e, hb, hv⟩ := H j (by omega)
  refine ⟨b, o, e, hb, ?_⟩
  rw [hv, List.getD_eq_getElem?_getD, List.getD_eq_getElem?_getD, List.getElem?_take_of_lt (by omega)]
theorem RdB.cutR {w : World} {b o cap : Nat} {l : List Nat} (h : RdB w (.slice (some ⟨b, o, none⟩) l.length cap) l) (k n c : Nat) (hk : k + n = l.length) (hc : n ≤ c) : RdB w (.slice (some ⟨b, o + k, none⟩) n c) (l.drop k) := by
  obtain ⟨hy, ao', cap', e, hc', H⟩ := h
  cases e
  refine ⟨byt_drop hy k, some ⟨b, o + k, none⟩, c, by rw [List.length_drop]; congr 1; omega, by rw [List.length_drop]; omega, fun j hj => ?_⟩
  rw [List.length_drop] at hj
  obtain ⟨b', o', e, hb, hv⟩ := H (k + j) (by omega)
  cases e
  refine ⟨b, o + k, rfl, hb, ?_⟩
  rw [Nat.add_assoc, hv, List.getD_eq_getElem?_getD, List.getD_eq_getElem?_getD, List.getElem?_drop]
end Go.Proofs.Ytdipecepgfaokaa
