/- The walk of frame.Encode. -/
import Derived.Test.YtdipecepgfaokaaN5
import Derived.Lib.SlBytesConst
namespace Go.Proofs.Ytdipecepgfaokaa
set_option linter.unusedSimpArgs false
set_option linter.unusedVariables false
open Go.RowKit

def fl (wd : Nat) (L : List Int) (j : Nat) : List Nat := (L.take j).flatMap (be wd)
theorem fl_succ (wd : Nat) (L : List Int) (j : Nat) (h : j < L.length) : fl wd L (j + 1) = fl wd L j ++ be wd (L.getD j 0) := by
  unfold fl
  rw [List.take_add_one, List.flatMap_append, List.getElem?_eq_getElem h, List.getD_eq_getElem?_getD, List.getElem?_eq_getElem h]
  simp
theorem fl_len (wd : Nat) (L : List Int) (j : Nat) (h : j ≤ L.length) : (fl wd L j).length = j * wd := by
  induction j with
  | zero => simp [fl]
  | succ j ih => rw [fl_succ wd L j (by omega), List.length_append, ih (by omega), be_length, Nat.succ_mul]
/-- A frame's bytes ahead of the sum. -/
def bodyL (f : FrD) : List Nat :=
  [97, 108, 105, 49] ++ fl 1 [f.kind, f.src, f.dst, f.who] 4 ++ be 2 f.boot ++ be 2 f.seq ++ fl 8 [f.stamp, f.t1, f.t2, f.when] 4 ++ be 4 f.x ++ be 4 f.y ++ fl 8 [f.a, f.b, f.d] 3
def encL (f : FrD) : List Nat := bodyL f ++ be 4 (crc (bodyL f))
theorem cv_bytes (w : World) (C : Array Value) (n c : Nat) : Sem.run Try.prog (convert 30 30 (.slice (some ⟨w.heap.size, 0, none⟩) n c)) (w.alloc (.cells C 5)) = .ok (.slice (some ⟨w.heap.size, 0, none⟩) n c) (w.alloc (.cells C 5 (C.size, C.size + 1))) :=
  Go.Lib.run_convert_bytes_const w 30 5 C n c Try.underlying30 Try.underlying5
set_option maxRecDepth 100000 in
theorem ix4i (a b c d : Int) (w : World) : Sem.run Try.prog (Instr.index 49 (.agg #[.int .i64 a, .int .i64 b, .int .i64 c, .int .i64 d]) (.int .i64 0)) w = .ok (.int .i64 a) w ∧ Sem.run Try.prog (Instr.index 49 (.agg #[.int .i64 a, .int .i64 b, .int .i64 c, .int .i64 d]) (.int .i64 1)) w = .ok (.int .i64 b) w ∧
    Sem.run Try.prog (Instr.index 49 (.agg #[.int .i64 a, .int .i64 b, .int .i64 c, .int .i64 d]) (.int .i64 2)) w = .ok (.int .i64 c) w ∧ Sem.run Try.prog (Instr.index 49 (.agg #[.int .i64 a, .int .i64 b, .int .i64 c, .int .i64 d]) (.int .i64 3)) w = .ok (.int .i64 d) w := ⟨rfl, rfl, rfl, rfl⟩
set_option maxRecDepth 100000 in
theorem ix4l (a b c d : Int) (w : World) : Sem.run Try.prog (Instr.index 51 (.agg #[.int .i64 a, .int .i64 b, .int .i64 c, .int .i64 d]) (.int .i64 0)) w = .ok (.int .i64 a) w ∧ Sem.run Try.prog (Instr.index 51 (.agg #[.int .i64 a, .int .i64 b, .int .i64 c, .int .i64 d]) (.int .i64 1)) w = .ok (.int .i64 b) w ∧
    Sem.run Try.prog (Instr.index 51 (.agg #[.int .i64 a, .int .i64 b, .int .i64 c, .int .i64 d]) (.int .i64 2)) w = .ok (.int .i64 c) w ∧ Sem.run Try.prog (Instr.index 51 (.agg #[.int .i64 a, .int .i64 b, .int .i64 c, .int .i64 d]) (.int .i64 3)) w = .ok (.int .i64 d) w := ⟨rfl, rfl, rfl, rfl⟩
set_option maxRecDepth 100000 in
theorem ix3l (a b c : Int) (w : World) : Sem.run Try.prog (Instr.index 52 (.agg #[.int .i64 a, .int .i64 b, .int .i64 c]) (.int .i64 0)) w = .ok (.int .i64 a) w ∧ Sem.run Try.prog (Instr.index 52 (.agg #[.int .i64 a, .int .i64 b, .int .i64 c]) (.int .i64 1)) w = .ok (.int .i64 b) w ∧
    Sem.run Try.prog (Instr.index 52 (.agg #[.int .i64 a, .int .i64 b, .int .i64 c]) (.int .i64 2)) w = .ok (.int .i64 c) w := ⟨rfl, rfl, rfl⟩
theorem OwnB.lit {w : World} (B : Nat) (l : List Nat) (hl : Byt l) (fz : Nat × Nat) : OwnB (w.alloc (Obj.cells (l.map fun (c : Nat) => Value.int .u8 (c : Int)).toArray 5 fz)) B (.slice (some ⟨w.heap.size, 0, none⟩) l.length l.length) l := by
  refine .inr ⟨hl, w.heap.size, rfl, by simp, fun j hj => ?_⟩
  have hn : (w.alloc (Obj.cells (l.map fun (c : Nat) => Value.int .u8 (c : Int)).toArray 5 fz)).heap[w.heap.size]? = some (Obj.cells (l.map fun (c : Nat) => Value.int .u8 (c : Int)).toArray 5 fz) := heap_alloc_new w _
  rw [cell_of_row _ _ j _ _ _ hn, List.getElem?_toArray, List.getElem?_map, List.getElem?_eq_getElem hj, List.getD_eq_getElem?_getD, List.getElem?_eq_getElem hj]; rfl
set_option maxRecDepth 100000 in
set_option maxHeartbeats 4000000 in
theorem encode_f (k s bo sq st ds ta tb wh wn x y a b d : Int) (hm : mayF ⟨k, s, bo, sq, st, ds, ta, tb, wh, wn, x, y, a, b, d⟩ = false) (w : World) :
    Calls Try.prog 8 #[frC k s bo sq st ds ta tb wh wn x y a b d] w fun e w' => e = .returned (.tuple #[.slice none 0 0, .int .i64 1]) ∧ Below w.heap.size w w' := by
  go_enter Try.func8, Try.ntmps8
  go_wp2_with fail
  refine Calls.mono (framemay_v ⟨k, s, bo, sq, st, ds, ta, tb, wh, wn, x, y, a, b, d⟩ _ hm _) ?_; rintro e w1 ⟨rfl, hb1⟩; have z_w1 := hb1.size; (try simp at z_w1); obtain ⟨y_w1_0_0, c_w1_0_0, f_w1_0_0, r_w1_0_0, t_w1_0_0, p_w1_0_0⟩ := bk hb1 (w.heap.size) (by first | omega | (simp; done) | (simp; omega) | fail)
  go_wp2_with fail
  go_ret2
  exact ⟨rfl, (by repeat (first | with_reducible exact Below.refl _ _ | with_reducible exact Below_of_hid (by assumption) | with_reducible refine Below.drew ?_ | with_reducible refine below_drewN ?_ _ | (with_reducible refine Below_putRow ?_ ?hB _ _; case hB => (first | omega | (simp; done) | (simp; omega))) | (with_reducible refine Below.alloc ?_ ?hB _; case hB => (first | omega | (simp; done) | (simp; omega))) | (with_reducible refine Below.setCell ?_ ?hB _; case hB => (first | omega | (simp; done) | (simp; omega))) | (with_reducible refine Below.trans ?_ (Below.mono (by assumption) ?hB); case hB => (first | omega | (simp; done) | (simp; omega)))))⟩
theorem below_undrew {B : Nat} {w w' : World} (h : Below B w.drew w') : Below B w w' := ⟨h.os, h.tape, h.output, h.size, h.block⟩
end Go.Proofs.Ytdipecepgfaokaa
