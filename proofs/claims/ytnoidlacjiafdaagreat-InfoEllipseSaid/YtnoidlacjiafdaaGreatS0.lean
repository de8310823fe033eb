/- Worlds that differ in one block, and in new ones: what a method on a pointer leaves. -/
import Derived.Test.YtnoidlacjiafdaaGreatBE
namespace Go.Proofs.YtnoidlacjiafdaaGreat
set_option linter.unusedSimpArgs false
set_option linter.unusedVariables false
open Go.RowKit

/-- w' is w with new blocks, and another content of block g. -/
structure OnlyAt (g : Nat) (w w' : World) : Prop where
  os : w'.os = w.os
  tape : w'.tape = w.tape
  output : w'.output = w.output
  size : w.heap.size ≤ w'.heap.size
  block : ∀ k, k < w.heap.size → k ≠ g → w'.heap[k]? = w.heap[k]?
section
variable {g : Nat} {w w' w'' : World}
theorem OnlyAt.refl : OnlyAt g w w := ⟨rfl, rfl, rfl, Nat.le_refl _, fun _ _ _ => rfl⟩
theorem OnlyAt.of_below (h : Below w.heap.size w w') : OnlyAt g w w' := ⟨h.os, h.tape, h.output, h.size, fun k hk _ => h.block k hk⟩
theorem OnlyAt.trans (h : OnlyAt g w w') (h' : OnlyAt g w' w'') : OnlyAt g w w'' :=
  ⟨h'.os.trans h.os, h'.tape.trans h.tape, h'.output.trans h.output, Nat.le_trans h.size h'.size, fun k hk hg => (h'.block k (Nat.lt_of_lt_of_le hk h.size) hg).trans (h.block k hk hg)⟩
theorem OnlyAt.alloc (h : OnlyAt g w w') (o : Obj) : OnlyAt g w (w'.alloc o) :=
  ⟨h.os, h.tape, h.output, by have := h.size; simp; omega, fun k hk hg => (Below.heap_alloc w' o k (Nat.lt_of_lt_of_le hk h.size)).trans (h.block k hk hg)⟩
theorem OnlyAt.drew (h : OnlyAt g w w') : OnlyAt g w w'.drew := ⟨h.os, h.tape, h.output, h.size, h.block⟩
theorem OnlyAt.setCell (h : OnlyAt g w w') (i : Nat) (v : Value) : OnlyAt g w (w'.setCell ⟨g, i, none⟩ v) :=
  ⟨h.os, h.tape, h.output, by have := h.size; simpa using this, fun k hk hg => (heap_setCell_other w' ⟨g, i, none⟩ k v hg).trans (h.block k hk hg)⟩
/-- A store into a new block. -/
theorem OnlyAt.setNew (h : OnlyAt g w w') {b : Nat} (hb : w.heap.size ≤ b) (i : Nat) (v : Value) : OnlyAt g w (w'.setCell ⟨b, i, none⟩ v) :=
  ⟨h.os, h.tape, h.output, by have := h.size; simpa using this, fun k hk hg => (heap_setCell_other w' ⟨b, i, none⟩ k v (by simp only; omega)).trans (h.block k hk hg)⟩
theorem OnlyAt.blk (h : OnlyAt g w w') {b : Nat} {c : Array Value} {t : TypeId} (hb : Blk w b c t) (hne : b ≠ g) : Blk w' b c t := (h.block b hb.lt hne).trans hb
theorem OnlyAt.below {B : Nat} {w0 : World} (h : OnlyAt g w w') (hb : Below B w0 w) (hB : B ≤ w0.heap.size) (hg : B ≤ g) : Below B w0 w' :=
  ⟨h.os.trans hb.os, h.tape.trans hb.tape, h.output.trans hb.output, Nat.le_trans hb.size h.size, fun k hk => (h.block k (by have := hb.size; omega) (by omega)).trans (hb.block k hk)⟩
end
end Go.Proofs.YtnoidlacjiafdaaGreat
