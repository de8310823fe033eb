/- Blocks of the call's own: what is known of a block whole, and how it is kept. No program in sight. Rows of cells (structs, arrays) read and written whole, as rules for the walk. No program in sight. How the program's wide numbers lie in memory: rows of words; the numbers of package wide as values. No program in sight. Wide numbers that are small enough: sums and products are those of whole numbers. No program in sight. '==' between two rows of words. No program in sight. Small tools for a region that only reads and calls. No program in sight. -/
import Derived.WalkKit
import Derived.Lib.Hide
import Derived.Deep.MidRow
import Derived.Deep.QuietTactic
import Derived.StillTailTactics
import Derived.Test.YtechbdnhalmobaaGreatDoorBN
import Derived.BigQuiet
import Derived.Lib.QuietBelow
namespace Go.Proofs.YtechbdnhalmobaaGreatDoor
set_option linter.unusedSimpArgs false
set_option linter.unusedVariables false
open Go.RowKit

def Blk (w:World) (b:Nat) (c:Array Value) (t:TypeId):Prop:=w.heap[b]? = some (.cells c t (0,0))
theorem Blk.cell {w:World} {b:Nat} {c:Array Value} {t:TypeId} (h:Blk w b c t) {i:Nat} {v:Value} (hv:c[i]? = some v):w.cell? ⟨b,i,none⟩=some v:=by
 rw [cell_of_row w b i c t (0,0) h,hv]
theorem Blk.at {w:World} {b:Nat} {c:Array Value} {t:TypeId} (h:Blk w b c t) (i:Nat):w.cell? ⟨b,i,none⟩=c[i]?:=cell_of_row w b i c t (0,0) h
theorem Blk.frozen {w:World} {b:Nat} {c:Array Value} {t:TypeId} (h:Blk w b c t) (i:Nat):w.frozen? ⟨b,i,none⟩=false:=frozen_of_row w b i c t h
theorem Blk.lt {w:World} {b:Nat} {c:Array Value} {t:TypeId} (h:Blk w b c t):b<w.heap.size:=by
 rcases Nat.lt_or_ge b w.heap.size with h'|h'
 ·exact h'
 ·unfold Blk at h;rw [Array.getElem?_eq_none h'] at h;cases h
theorem Blk.new (w:World) (c:Array Value) (t:TypeId):Blk (w.alloc (.cells c t)) w.heap.size c t:=heap_alloc_new w _
theorem Blk.new' (w:World) (c:Array Value) (t:TypeId) {b:Nat} (hb:b=w.heap.size):Blk (w.alloc (.cells c t)) b c t:=by subst hb;exact heap_alloc_new w _
theorem Blk.alloc {w:World} {b:Nat} {c:Array Value} {t:TypeId} (h:Blk w b c t) (o:Obj):Blk (w.alloc o) b c t:=by
 unfold Blk;rw [Below.heap_alloc w o b h.lt];exact h
theorem Blk.drew {w:World} {b:Nat} {c:Array Value} {t:TypeId} (h:Blk w b c t):Blk w.drew b c t:=h
theorem Blk.below {w w':World} {B b:Nat} {c:Array Value} {t:TypeId} (h:Blk w b c t) (hb:Below B w w') (hlt:b<B):Blk w' b c t:=by
 unfold Blk;rw [hb.block b hlt];exact h
theorem Blk.keep {w w':World} {b:Nat} {c:Array Value} {t:TypeId} (h:Blk w b c t) (hb:Below w.heap.size w w'):Blk w' b c t:=h.below hb h.lt
theorem Blk.setCell_same {w:World} {b:Nat} {c:Array Value} {t:TypeId} (h:Blk w b c t) (i:Nat) (v:Value):Blk (w.setCell ⟨b,i,none⟩ v) b (c.setIfInBounds i v) t :=
 heap_setCell_same w b i c t v h
theorem Blk.setCell_other {w:World} {b:Nat} {c:Array Value} {t:TypeId} (h:Blk w b c t) {a:Addr} (hne:b≠a.block) (v:Value):Blk (w.setCell a v) b c t:=by
 unfold Blk;rw [heap_setCell_other w a b v hne];exact h
theorem Blk.setRow_same {w:World} {b:Nat} {c:Array Value} {t:TypeId} (h:Blk w b c t) (c':Array Value):Blk (w.setRow b c') b c' t:=_root_.Go.setRow_heap w b c c' t _ h
theorem Blk.setRow_other {w:World} {b:Nat} {c:Array Value} {t:TypeId} (h:Blk w b c t) {g:Nat} (hne:b≠g) (c':Array Value):Blk (w.setRow g c') b c t:=by
 unfold Blk;rw [_root_.Go.setRow_other w g b c' hne];exact h
theorem Blk.of_eq {w:World} {b:Nat} {c c':Array Value} {t:TypeId} (h:Blk w b c t) (e:c=c'):Blk w b c' t:=e ▸ h
theorem Below_setRow {B:Nat} {a w:World} (h:Below B a w) {g:Nat} (hg:B≤g) (c:Array Value):Below B a (w.setRow g c) :=
 h.trans ⟨rfl,rfl,rfl,by simp,fun k hk=>_root_.Go.setRow_other w g k c (by omega)⟩
theorem results_row_tmp {P:Program} {fn:Func} {p u:Tmp} {ty:TypeId} (h:fn.results=#[.cell p ty,.tmp u]) (tmps:Array Value) (w:World) (g:Nat) (t:TypeId) (cs:Array Value) (d:TypeDesc)
  (hp:tmps.getD p undef = .pointer (some ⟨g,0,none⟩)) (hg:Blk w g cs t)
  (hu:P.underlying ty=some d) (hd:(match d with | .struct _ | .array _ _=>true|_=>false)=true) (hi:(P.info? ty).map (·.size)=some cs.size) :
  (results fn tmps).run P w = .ok (.tuple #[.agg cs,tmps.getD u undef]) w:=by
 rw [results_cell_tmp h,hp]
 simp [asAddr,Result.andThen,run_loadVar_row w g t ty cs (0,0) d hg hu hd hi]
theorem results_row {P:Program} {fn:Func} {p:Tmp} {ty:TypeId} (h:fn.results=#[.cell p ty]) (tmps:Array Value) (w:World) (g:Nat) (t:TypeId) (cs:Array Value) (d:TypeDesc)
  (hp:tmps.getD p undef = .pointer (some ⟨g,0,none⟩)) (hg:Blk w g cs t)
  (hu:P.underlying ty=some d) (hd:(match d with | .struct _ | .array _ _=>true|_=>false)=true) (hi:(P.info? ty).map (·.size)=some cs.size) :
  (results fn tmps).run P w = .ok (.agg cs) w :=
 results_cell_row h tmps w g t cs (0,0) d hp hg hu hd hi
open Go.RowKit

def splice (c:Array Value) (o:Nat) (cs:Array Value):Array Value:=(c.toList.take o++cs.toList++c.toList.drop (o+cs.size)).toArray
def ones (cs:Array Value):Bool:=cs.all (·.oneCell')
end Go.Proofs.YtechbdnhalmobaaGreatDoor
namespace Go
def World.row? (w:World) (b o n:Nat):Option (Array Value) :=
 match w.heap[b]? with
 | some (.cells c _ _)=>if o+n≤c.size then some (c.extract o (o+n)) else none
 | _=>none
def World.putRow (w:World) (b o:Nat) (cs:Array Value):World :=
 { w with heap := w.heap.modify b fun
     | .cells c t fr => .cells (Proofs.YtechbdnhalmobaaGreatDoor.splice c o cs) t fr
     | ob=>ob }
def World.put? (w:World) (b o:Nat) (cs:Array Value):Option World :=
 match w.heap[b]? with
 | some (.cells c _ (0,0))=>if o+cs.size≤c.size&&Proofs.YtechbdnhalmobaaGreatDoor.ones cs then some (w.putRow b o cs) else none
 | _=>none
def World.fits (w:World) (b n:Nat):Bool :=
 match w.heap[b]? with
 | some (.cells c _ (0,0))=>decide (n≤c.size)
 | _=>false
end Go
namespace Go.Proofs.YtechbdnhalmobaaGreatDoor
open Go.RowKit

@[simp] theorem splice_all (c cs : Array Value) (h : cs.size = c.size) : splice c 0 cs = cs := by
  unfold splice
  have:c.toList.drop (0+cs.size) = []:=List.drop_eq_nil_of_le (by simp [h])
  rw [this];simp
@[simp] theorem splice_size (c : Array Value) (o : Nat) (cs : Array Value) (h : o + cs.size ≤ c.size) : (splice c o cs).size = c.size := by
  simp [splice];omega
def rowRes (r:Option (Array Value)) (w:World) (f:Result Value):Result Value :=
 match r with
 | some cs => .ok (.agg cs) w
 | none=>f
@[go_sem] theorem rowRes_some (cs : Array Value) (w : World) (f : Result Value) : rowRes (some cs) w f = .ok (.agg cs) w := rfl
def putRes (r:Option World) (f:Result Unit):Result Unit :=
 match r with
 | some w => .ok () w
 | none=>f
@[go_sem] theorem putRes_some (w : World) (f : Result Unit) : putRes (some w) f = .ok () w := rfl
section
variable {P:Program}
theorem setRow_putRow (w:World) (b o:Nat) (c cs:Array Value) (t:TypeId) (fr:Nat × Nat) (h:w.heap[b]? = some (.cells c t fr)):w.setRow b (splice c o cs)=w.putRow b o cs:=by
 unfold World.setRow World.putRow
 congr 1
 apply Array.ext_getElem?
 intro i
 rw [Array.getElem?_modify,Array.getElem?_modify]
 by_cases hi:b=i
 ·subst hi;simp [h]
 ·simp [hi]
theorem run_loadVar_row? (w:World) (b o n:Nat) (ty:TypeId) (cs:Array Value) (d:TypeDesc) (hu:P.underlying ty=some d) (hd:d.isRow=true) (hi:(P.info? ty).map (·.size)=some n) (h:w.row? b o n=some cs) :
  (loadVar ty ⟨b,o,none⟩).run P w = .ok (.agg cs) w:=by
 unfold World.row? at h
 split at h
 ·rename_i c t fr hb
  split at h
  ·rename_i hle
   cases h
   have hr:=World.rangeAt_of_block hb o n
   have hs:((c.extract o (o+n)).toList).length=n:=by simp;omega
   have:=run_loadVar_mid (P:=P) w b o ty (c.extract o (o+n)).toList d hr hu hd (by rw [hs];exact hi)
   rwa [Array.toArray_toList] at this
  ·cases h
 ·cases h
end

def lcf (P:Program) (b o n:Nat) (w:World):Result (Array Value):=(loadCellsFrom ⟨b,o,none⟩ 0 n #[]).run P w
def scf (P:Program) (b o:Nat) (cs:Array Value) (w:World):Result Unit:=(storeCells ⟨b,o,none⟩ cs.toList).run P w
def rowResA (r:Option (Array Value)) (w:World) (f:Result (Array Value)):Result (Array Value) :=
 match r with
 | some cs => .ok cs w
 | none=>f
@[go_sem] theorem rowResA_some (cs : Array Value) (w : World) (f : Result (Array Value)) : rowResA (some cs) w f = .ok cs w := rfl
theorem lcf_row? {P:Program} (w:World) (b o n:Nat):(loadCellsFrom ⟨b,o,none⟩ 0 n #[]).run P w=rowResA (w.row? b o n) w (lcf P b o n w):=by
 cases h:w.row? b o n with
 | none=>rfl
 | some cs =>
  unfold World.row? at h
  split at h
  ·rename_i c t fr hb
   split at h
   ·cases h
    have hr:=World.rangeAt_of_block hb o n
    have hs:((c.extract o (o+n)).toList).length=n:=by simp;omega
    have:=run_loadCells_list (P:=P) w ⟨b,o,none⟩ (c.extract o (o+n)).toList (fun j v hv=>by rw [Addr.add_mid];exact hr j v hv)
    rw [hs,Array.toArray_toList] at this
    exact this
   ·cases h
  ·cases h
theorem scf_put? {P:Program} (w:World) (b o:Nat) (cs:Array Value):(storeCells ⟨b,o,none⟩ cs.toList).run P w=putRes (w.put? b o cs) (scf P b o cs w):=by
 cases h:w.put? b o cs with
 | none=>rfl
 | some w' =>
  unfold World.put? at h
  split at h
  ·rename_i c t hb
   split at h
   ·rename_i hc
    rw [Bool.and_eq_true,decide_eq_true_eq] at hc
    have hst:=run_storeCells_at P b o t cs.toList 0 c w hb (by simpa using hc.1) (fun v hv=>(Array.all_eq_true_iff_forall_mem.1 hc.2) v (by simpa using hv))
    have:=setRow_putRow w b o c cs t (0,0) hb
    unfold splice at this
    simp only [Nat.add_zero,Array.length_toList,this] at hst
    cases h;exact hst
   ·cases h
  ·cases h
@[go_sem ↓] theorem lcf_16 (P : Program) (w : World) (b o : Nat) : (loadCellsFrom ⟨b, o, none⟩ 0 16 #[]).run P w = rowResA (w.row? b o 16) w (lcf P b o 16 w) := lcf_row? w b o 16
@[go_sem ↓] theorem lcf_18 (P : Program) (w : World) (b o : Nat) : (loadCellsFrom ⟨b, o, none⟩ 0 18 #[]).run P w = rowResA (w.row? b o 18) w (lcf P b o 18 w) := lcf_row? w b o 18
@[go_sem] theorem scf_run (P : Program) (w : World) (b o : Nat) (cs : Array Value) : (storeCells ⟨b, o, none⟩ cs.toList).run P w = putRes (w.put? b o cs) (scf P b o cs w) := scf_put? w b o cs
/-! ### Block numbers -/
@[go_sem] theorem neA1 (n : Nat) : (n = n + 1) = False := eq_false (by omega)
@[go_sem] theorem neB1 (n : Nat) : (n + 1 = n) = False := eq_false (by omega)
@[go_sem] theorem ltA1 (n : Nat) : (n < n + 1) = True := eq_true (by omega)
@[go_sem] theorem neA2 (n : Nat) : (n = n + 1 + 1) = False := eq_false (by omega)
@[go_sem] theorem neB2 (n : Nat) : (n + 1 + 1 = n) = False := eq_false (by omega)
@[go_sem] theorem ltA2 (n : Nat) : (n < n + 1 + 1) = True := eq_true (by omega)
@[go_sem] theorem neA3 (n : Nat) : (n = n + 1 + 1 + 1) = False := eq_false (by omega)
@[go_sem] theorem neB3 (n : Nat) : (n + 1 + 1 + 1 = n) = False := eq_false (by omega)
@[go_sem] theorem ltA3 (n : Nat) : (n < n + 1 + 1 + 1) = True := eq_true (by omega)
@[go_sem] theorem neA4 (n : Nat) : (n = n + 1 + 1 + 1 + 1) = False := eq_false (by omega)
@[go_sem] theorem neB4 (n : Nat) : (n + 1 + 1 + 1 + 1 = n) = False := eq_false (by omega)
@[go_sem] theorem ltA4 (n : Nat) : (n < n + 1 + 1 + 1 + 1) = True := eq_true (by omega)
@[go_sem] theorem neA5 (n : Nat) : (n = n + 1 + 1 + 1 + 1 + 1) = False := eq_false (by omega)
@[go_sem] theorem neB5 (n : Nat) : (n + 1 + 1 + 1 + 1 + 1 = n) = False := eq_false (by omega)
@[go_sem] theorem ltA5 (n : Nat) : (n < n + 1 + 1 + 1 + 1 + 1) = True := eq_true (by omega)
@[go_sem] theorem neA6 (n : Nat) : (n = n + 1 + 1 + 1 + 1 + 1 + 1) = False := eq_false (by omega)
@[go_sem] theorem neB6 (n : Nat) : (n + 1 + 1 + 1 + 1 + 1 + 1 = n) = False := eq_false (by omega)
@[go_sem] theorem ltA6 (n : Nat) : (n < n + 1 + 1 + 1 + 1 + 1 + 1) = True := eq_true (by omega)
@[go_sem] theorem neA7 (n : Nat) : (n = n + 1 + 1 + 1 + 1 + 1 + 1 + 1) = False := eq_false (by omega)
@[go_sem] theorem neB7 (n : Nat) : (n + 1 + 1 + 1 + 1 + 1 + 1 + 1 = n) = False := eq_false (by omega)
@[go_sem] theorem ltA7 (n : Nat) : (n < n + 1 + 1 + 1 + 1 + 1 + 1 + 1) = True := eq_true (by omega)
@[go_sem] theorem neA8 (n : Nat) : (n = n + 1 + 1 + 1 + 1 + 1 + 1 + 1 + 1) = False := eq_false (by omega)
@[go_sem] theorem neB8 (n : Nat) : (n + 1 + 1 + 1 + 1 + 1 + 1 + 1 + 1 = n) = False := eq_false (by omega)
@[go_sem] theorem ltA8 (n : Nat) : (n < n + 1 + 1 + 1 + 1 + 1 + 1 + 1 + 1) = True := eq_true (by omega)
/-! ### Rules on worlds -/
section
variable {w:World}
@[go_sem] theorem row?_alloc_at (c : Array Value) (t : TypeId) (b o n : Nat) (hb : b = w.heap.size) (hn : o + n ≤ c.size) : (w.alloc (.cells c t)).row? b o n = some (c.extract o (o + n)) := by
  subst hb
  unfold World.row?
  rw [heap_alloc_new]
  simp [hn]
@[go_sem] theorem row?_alloc_past (ob : Obj) (b o n : Nat) (hb : b < w.heap.size) : (w.alloc ob).row? b o n = w.row? b o n := by
  unfold World.row?;rw [Below.heap_alloc w ob b hb]
@[go_sem] theorem row?_drew (b o n : Nat) : w.drew.row? b o n = w.row? b o n := rfl
@[go_sem] theorem row?_drewN (k b o n : Nat) : (w.drewN k).row? b o n = w.row? b o n := rfl
@[go_sem] theorem put?_drew (b o : Nat) (cs : Array Value) : w.drew.put? b o cs = (w.put? b o cs).map World.drew := by
  unfold World.put? World.drew World.putRow
  simp only
  cases h:w.heap[b]? with
  | none=>rfl
  | some ob =>
   cases ob with
   | cells c t fr =>
    obtain ⟨lo,hi⟩:=fr
    rcases lo with _|lo <;> rcases hi with _|hi <;> simp only [Option.map_none]
    split <;> rfl
   | _=>rfl
@[go_sem] theorem put?_alloc_at (c : Array Value) (t : TypeId) (b o : Nat) (cs : Array Value) (hb : b = w.heap.size) (hn : o + cs.size ≤ c.size) (h1 : ones cs = true) :
    (w.alloc (.cells c t)).put? b o cs=some (w.alloc (.cells (splice c o cs) t)):=by
 subst hb
 unfold World.put?
 rw [heap_alloc_new]
 simp only [hn,h1,decide_true,Bool.and_self,if_true]
 rw [← setRow_putRow _ _ o c cs t (0,0) (heap_alloc_new w _)]
 congr 1
 simp only [World.setRow,World.alloc]
 congr 1
 apply Array.ext_getElem?
 intro i
 rw [Array.getElem?_modify]
 by_cases h:w.heap.size=i
 ·subst h;simp
 ·have h':¬ i=w.heap.size:=fun e=>h e.symm
  simp [h,h',Array.getElem?_push]
theorem putRow_alloc_past (ob:Obj) (b o:Nat) (cs:Array Value) (hb:b<w.heap.size):(w.alloc ob).putRow b o cs=(w.putRow b o cs).alloc ob:=by
 simp only [World.putRow,World.alloc]
 congr 1
 apply Array.ext_getElem?
 intro k
 simp only [Array.getElem?_modify,Array.getElem?_push,Array.size_modify]
 by_cases hk:k=w.heap.size
 ·subst hk;simp [Nat.ne_of_lt hb]
 ·simp [hk]
@[go_sem] theorem put?_alloc_past (ob : Obj) (b o : Nat) (cs : Array Value) (hb : b < w.heap.size) : (w.alloc ob).put? b o cs = (w.put? b o cs).map (·.alloc ob) := by
  unfold World.put?;rw [Below.heap_alloc w ob b hb]
  rw [putRow_alloc_past ob b o cs hb]
  cases h:w.heap[b]? with
  | none=>rfl
  | some ob' =>
   cases ob' with
   | cells c t fr =>
    obtain ⟨lo,hi⟩:=fr
    rcases lo with _|lo <;> rcases hi with _|hi <;> simp only [Option.map_none]
    split <;> rfl
   | _=>rfl
end
/-! ### Facts on worlds that are variables -/
theorem Blk.row? {w:World} {b:Nat} {c:Array Value} {t:TypeId} (h:Blk w b c t) (o n:Nat) (hn:o+n≤c.size):w.row? b o n=some (c.extract o (o+n)):=by
 unfold World.row?;unfold Blk at h;rw [h];simp [hn]
theorem Blk.row?_all {w:World} {b:Nat} {c:Array Value} {t:TypeId} (h:Blk w b c t) (n:Nat) (hn:c.size=n):w.row? b 0 n=some c:=by
 rw [h.row? 0 n (by omega)];simp [← hn]
theorem Blk.put? {w:World} {b:Nat} {c:Array Value} {t:TypeId} (h:Blk w b c t) (o:Nat) (cs:Array Value) (hn:o+cs.size≤c.size) (h1:ones cs=true):w.put? b o cs=some (w.putRow b o cs):=by
 unfold World.put?;unfold Blk at h;rw [h];simp [hn,h1]
theorem Blk.putRow_same {w:World} {b:Nat} {c:Array Value} {t:TypeId} (h:Blk w b c t) (o:Nat) (cs:Array Value):Blk (w.putRow b o cs) b (splice c o cs) t:=by
 rw [← setRow_putRow w b o c cs t (0,0) h];exact h.setRow_same _
theorem Blk.putRow_other {w:World} {b:Nat} {c:Array Value} {t:TypeId} (h:Blk w b c t) {g:Nat} (hne:b≠g) (o:Nat) (cs:Array Value):Blk (w.putRow g o cs) b c t:=by
 unfold Blk World.putRow;unfold Blk at h
 simp only [Array.getElem?_modify]
 rw [if_neg (Ne.symm hne)];exact h
theorem Below_putRow {B:Nat} {a w:World} (h:Below B a w) {g:Nat} (hg:B≤g) (o:Nat) (cs:Array Value):Below B a (w.putRow g o cs) :=
 h.trans ⟨rfl,rfl,rfl,by simp [World.putRow],fun k hk=>by
  simp only [World.putRow,Array.getElem?_modify];rw [if_neg (by omega)]⟩
theorem Below.row? {B:Nat} {w w':World} (h:Below B w w') (b o n:Nat) (hb:b<B):w'.row? b o n=w.row? b o n:=by
 unfold World.row?;rw [h.block b hb]
theorem Below.put? {B:Nat} {w w':World} (h:Below B w w') (b o:Nat) (cs:Array Value) (hb:b<B) (hp:(w.put? b o cs).isSome=true):w'.put? b o cs=some (w'.putRow b o cs):=by
 unfold World.put? at *;rw [h.block b hb]
 revert hp
 split
 ·split
  ·intro _;rfl
  ·intro h;cases h
 ·intro h;cases h
theorem results_row? {P:Program} {fn:Func} {p:Tmp} {ty:TypeId} (h:fn.results=#[.cell p ty]) (tmps:Array Value) (w:World) (g n:Nat) (cs:Array Value) (d:TypeDesc)
  (hp:tmps.getD p undef = .pointer (some ⟨g,0,none⟩)) (hg:w.row? g 0 n=some cs)
  (hu:P.underlying ty=some d) (hd:d.isRow=true) (hi:(P.info? ty).map (·.size)=some n) :
  (results fn tmps).run P w = .ok (.agg cs) w:=by
 have:=run_loadVar_row? (P:=P) w g 0 n ty cs d hu hd hi hg
 have hp':tmps[p]?.getD undef = .pointer (some ⟨g,0,none⟩):=by simpa using hp
 simp [results,h,hp',asAddr,this]
theorem still_tail {P:Program} {id:Nat} {Q:Exit→Act→World→Prop} {a:Act} {w:World} {l:List Oper} (n:Nat) (hm:P.follows .mixedOrders=true) (hB:Region.lexTailB .any l.toArray n=true)
  (h:wpStill P l.toArray w.drew (fun a'=>wpList P l.toArray Q (l.drop n) a' w.drew) (l.take n) a):(Code.region id l.toArray true).wp P Q a w :=
 wp_region_still_tail n hm hB h
theorem foldl_set (l:List Value):∀ (k o:Nat) (c:Array Value) (i:Nat),((l.zipIdx k).foldl (fun cs x=>cs.setIfInBounds (o+x.2) x.1) c)[i]? = if o+k≤i∧i<o+k+l.length∧i<c.size then l[i-(o+k)]? else c[i]?:=by
 induction l with
 | nil=>intro k o c i;rw [if_neg (by simp;omega)];rfl
 | cons v l ih =>
  intro k o c i
  rw [List.zipIdx_cons,List.foldl_cons,ih (k+1) o]
  simp only [Array.size_setIfInBounds,List.length_cons,Array.getElem?_setIfInBounds]
  by_cases h1:o+k=i
  ·subst h1
   rw [if_neg (by omega)]
   by_cases h2:o+k<c.size
   ·simp [h2]
   ·simp [h2]
  ·by_cases h2:o+(k+1)≤i∧i<o+(k+1)+l.length∧i<c.size
   ·rw [if_pos h2,if_pos (by omega)]
    rw [show i-(o+k)=(i-(o+(k+1)))+1 by omega,List.getElem?_cons_succ]
   ·rw [if_neg h2,if_neg h1,if_neg (by omega)]
theorem foldl_set_size (l:List Value):∀ (k o:Nat) (c:Array Value),((l.zipIdx k).foldl (fun cs x=>cs.setIfInBounds (o+x.2) x.1) c).size=c.size:=by
 induction l with
 | nil=>intro k o c;rfl
 | cons v l ih=>intro k o c;rw [List.zipIdx_cons,List.foldl_cons,ih];simp
theorem foldl_splice (c v:Array Value) (o:Nat) (h:o+v.size≤c.size):v.zipIdx.foldl (fun cs x=>cs.setIfInBounds (o+x.2) x.1) c=splice c o v:=by
 rw [← Array.foldl_toList,Array.toList_zipIdx]
 apply Array.ext
 ·rw [foldl_set_size,splice_size _ _ _ h]
 ·intro i h1 h2
  have e:=foldl_set v.toList 0 o c i
  rw [Array.getElem?_eq_getElem h1] at e
  rw [foldl_set_size] at h1
  have e2:(splice c o v)[i]? = some ((splice c o v)[i]):=Array.getElem?_eq_getElem h2
  have:(splice c o v)[i]? = if o+0≤i∧i<o+0+v.toList.length∧i<c.size then v.toList[i-(o+0)]? else c[i]?:=by
   unfold splice
   simp only [List.getElem?_toArray,List.getElem?_append,List.length_append,List.length_take,Array.length_toList,Nat.add_zero]
   have hm:min o c.size=o:=by omega
   rw [hm]
   by_cases a1:i<o
   ·rw [if_pos (by omega),if_pos a1,if_neg (by omega),List.getElem?_take_of_lt a1,Array.getElem?_toList]
   ·by_cases a2:i<o+v.size
    ·rw [if_pos a2,if_neg a1,if_pos (by omega)]
    ·rw [if_neg a2,if_neg (by omega),List.getElem?_drop,Array.getElem?_toList]
     congr 1;omega
  rw [← this,e2] at e
  exact Option.some.inj e
theorem bodyPost_row {P:Program} {fn:Func} {R:Ending→World→Prop} {a:Act} {w:World} {p:Tmp} {ty:TypeId} {g:Nat} (n:Nat) (cs:Array Value) {d:TypeDesc}
  (h:fn.results=#[.cell p ty]) (hde:a.defers = []) (hp:a.tmps.getD p undef = .pointer (some ⟨g,0,none⟩))
  (hu:P.underlying ty=some d) (hd:d.isRow=true) (hi:(P.info? ty).map (·.size)=some n) (hg:w.row? g 0 n=some cs) (hR:R (.returned (.agg cs)) w) :
  bodyPost P fn R .ret a w:=bodyPost_ret (results_row? h a.tmps w g n cs d hp hg hu hd hi) hde hR
@[simp] theorem size_putRow (w : World) (b o : Nat) (cs : Array Value) : (w.putRow b o cs).heap.size = w.heap.size := by simp [World.putRow]
theorem Below_of_hid {B:Nat} {a b:World} (h:Hid (Below B a b)):Below B a b:=h
theorem put?_fits {w:World} {b o:Nat} {cs:Array Value} (h:w.fits b (o+cs.size)=true) (h1:ones cs=true):w.put? b o cs=some (w.putRow b o cs):=by
 unfold World.fits at h;unfold World.put?
 split at h
 ·rename_i c t hb
  rw [h,h1];rfl
 ·cases h
section
variable {w:World}
@[go_sem] theorem fits_alloc_at (c : Array Value) (t : TypeId) (b n : Nat) (hb : b = w.heap.size) : (w.alloc (.cells c t)).fits b n = decide (n ≤ c.size) := by
  subst hb;unfold World.fits;rw [heap_alloc_new];rfl
@[go_sem] theorem fits_alloc_past (ob : Obj) (b n : Nat) (hb : b < w.heap.size) : (w.alloc ob).fits b n = w.fits b n := by
  unfold World.fits;rw [Below.heap_alloc w ob b hb]
@[go_sem] theorem fits_drew (b n : Nat) : w.drew.fits b n = w.fits b n := rfl
@[go_sem] theorem fits_drewN (k b n : Nat) : (w.drewN k).fits b n = w.fits b n := rfl
theorem heap_putRow_other (g o:Nat) (cs:Array Value) (b:Nat) (h:b≠g):(w.putRow g o cs).heap[b]? = w.heap[b]?:=by
 simp only [World.putRow,Array.getElem?_modify];rw [if_neg (Ne.symm h)]
@[go_sem] theorem fits_putRow (g o : Nat) (cs : Array Value) (b n : Nat) (h : b ≠ g) : (w.putRow g o cs).fits b n = w.fits b n := by
  unfold World.fits;rw [heap_putRow_other g o cs b h]
@[go_sem] theorem row?_putRow_other (g o : Nat) (cs : Array Value) (b o' n : Nat) (h : b ≠ g) : (w.putRow g o cs).row? b o' n = w.row? b o' n := by
  unfold World.row?;rw [heap_putRow_other g o cs b h]
@[go_sem] theorem cell?_putRow_other (g o : Nat) (cs : Array Value) (b o' : Nat) (h : b ≠ g) : (w.putRow g o cs).cell? ⟨b, o', none⟩ = w.cell? ⟨b, o', none⟩ := by
  unfold World.cell?;simp only;rw [heap_putRow_other g o cs b h]
@[go_sem] theorem frozen?_putRow_other (g o : Nat) (cs : Array Value) (b o' : Nat) (h : b ≠ g) : (w.putRow g o cs).frozen? ⟨b, o', none⟩ = w.frozen? ⟨b, o', none⟩ := by
  unfold World.frozen?;simp only;rw [heap_putRow_other g o cs b h]
@[go_sem] theorem putRow_drew (g o : Nat) (cs : Array Value) : w.drew.putRow g o cs = (w.putRow g o cs).drew := rfl
end
theorem Below.fits {B:Nat} {w w':World} (h:Below B w w') (b n:Nat) (hb:b<B):w'.fits b n=w.fits b n:=by
 unfold World.fits;rw [h.block b hb]
theorem bk {W w1:World} (hb:Below W.heap.size W w1) (b:Nat) (h:b<W.heap.size) :
  b<w1.heap.size∧(∀ o,w1.cell? ⟨b,o,none⟩=W.cell? ⟨b,o,none⟩)∧(∀ o,w1.frozen? ⟨b,o,none⟩=W.frozen? ⟨b,o,none⟩)∧(∀ o n,w1.row? b o n=W.row? b o n)∧(∀ n,w1.fits b n=W.fits b n) ∧
   (∀ o cs,W.fits b (o+cs.size)=true→ones cs=true→w1.put? b o cs=some (w1.putRow b o cs)) :=
 ⟨Nat.lt_of_lt_of_le h hb.size,fun o=>hb.cell (p:=⟨b,o,none⟩) h,fun o=>hb.frozen (p:=⟨b,o,none⟩) h,fun o n=>Below.row? hb b o n h,fun n=>Below.fits hb b n h,
  fun _ _ h1 h2=>put?_fits (by rw [Below.fits hb b _ h];exact h1) h2⟩
theorem bq {W w1:World} (hb:Below W.heap.size W w1) (b:Nat) (h:b<W.heap.size:=by first|omega|(simp;done)|(simp;omega)|fail) :
  b<w1.heap.size∧(∀ o,w1.cell? ⟨b,o,none⟩=W.cell? ⟨b,o,none⟩)∧(∀ o,w1.frozen? ⟨b,o,none⟩=W.frozen? ⟨b,o,none⟩)∧(∀ o n,w1.row? b o n=W.row? b o n)∧(∀ n,w1.fits b n=W.fits b n) ∧
   (∀ o cs,W.fits b (o+cs.size)=true→ones cs=true→w1.put? b o cs=some (w1.putRow b o cs)):=bk hb b h
theorem below_by {B:Nat} {a w:World} (h:Below B a w:=by repeat (first|exact Below.refl _ _|exact Below_of_hid (by assumption)|refine Below.drew ?_|refine below_drewN ?_ _|refine Below_putRow ?_ (by first|omega|(simp;done)|(simp;omega)|fail) _ _|refine Below.alloc ?_ (by first|omega|(simp;done)|(simp;omega)|fail) _|refine Below.setCell ?_ (by first|omega|(simp;done)|(simp;omega)|fail) _|refine Below.trans ?_ (Below.mono (by assumption) (by first|omega|(simp;done)|(simp;omega)|fail)))):Below B a w:=h
theorem below_byR {B:Nat} {a w:World} (h:Below B a w:=by repeat (first|with_reducible exact Below.refl _ _|with_reducible exact Below_of_hid (by assumption)|with_reducible refine Below.drew ?_|with_reducible refine below_drewN ?_ _|(with_reducible refine Below_putRow ?_ ?hB _ _;case hB=>(first|omega|(simp;done)|(simp;omega)))|(with_reducible refine Below.alloc ?_ ?hB _;case hB=>(first|omega|(simp;done)|(simp;omega)))|(with_reducible refine Below.setCell ?_ ?hB _;case hB=>(first|omega|(simp;done)|(simp;omega)))|(with_reducible refine Below.trans ?_ (Below.mono (by assumption) ?hB);case hB=>(first|omega|(simp;done)|(simp;omega))))):Below B a w:=h
theorem row?_putRow_same {w:World} {b:Nat} (o:Nat) (cs:Array Value) (h:w.put? b o cs=some (w.putRow b o cs)):(w.putRow b o cs).row? b o cs.size=some cs:=by
 unfold World.put? at h
 split at h
 ·rename_i c t hb
  split at h
  ·rename_i hc
   rw [Bool.and_eq_true,decide_eq_true_eq] at hc
   have hblk:Blk w b c t:=hb
   have:=(hblk.putRow_same o cs).row? o cs.size (by rw [splice_size _ _ _ hc.1];exact hc.1)
   rw [this]
   congr 1
   have hl:(c.toList.take o).length=o:=by rw [List.length_take,Array.length_toList];omega
   apply Array.ext'
   simp only [splice,Array.toList_extract,List.extract_eq_take_drop]
   rw [show o+cs.size-o=cs.toList.length by simp,List.append_assoc,List.drop_left' hl,List.take_left]
  ·cases h
 ·cases h
@[go_sem] theorem row?_putRow_all {w : World} {b n : Nat} {cs : Array Value} (h : w.fits b cs.size = true) (h1 : ones cs = true) (hs : cs.size = n) : (w.putRow b 0 cs).row? b 0 n = some cs := by
  subst hs;exact row?_putRow_same 0 cs (put?_fits (by rw [Nat.zero_add];exact h) h1)
theorem row_put {w:World} {b n:Nat} {cs:Array Value} (h:w.put? b 0 cs=some (w.putRow b 0 cs)) (hs:cs.size=n):(w.putRow b 0 cs).row? b 0 n=some cs:=by
 subst hs;exact row?_putRow_same 0 cs h
theorem block_of_cell {w:World} {b i:Nat} {v:Value} (h:w.cell? ⟨b,i,none⟩=some v):∃ c t fr,w.heap[b]? = some (.cells c t fr):=by
 unfold World.cell? at h
 cases hb:w.heap[b]? with
 | none=>simp [hb] at h
 | some o =>
  cases o with
  | cells c t fr=>exact ⟨c,t,fr,rfl⟩
  | _=>simp [hb] at h
theorem row_of_cells {w:World} {b:Nat} (n:Nat) (cs:Array Value) (hs:cs.size=n+1) (h:∀ i,i<n+1→w.cell? ⟨b,i,none⟩=cs[i]?):w.row? b 0 (n+1)=some cs:=by
 have hv:∀ i (hi:i<n+1),w.cell? ⟨b,i,none⟩=some (cs[i]'(by omega)):=fun i hi=>by rw [h i hi,Array.getElem?_eq_getElem]
 obtain ⟨c,t,fr,hb⟩:=block_of_cell (hv 0 (by omega))
 have hc:∀ i (hi:i<n+1),c[i]? = some (cs[i]'(by omega)):=fun i hi=>by rw [← hv i hi,cell_of_row w b i c t fr hb]
 have hsz:n+1≤c.size:=by
  rcases Nat.lt_or_ge n c.size with h'|h'
  ·exact h'
  ·have:=hc n (by omega);rw [Array.getElem?_eq_none h'] at this;cases this
 unfold World.row?
 simp only [hb]
 rw [if_pos (by omega)]
 congr 1
 apply Array.ext
 ·simp [hs];omega
 ·intro i h1 h2
  have:=hc i (by omega)
  rw [Array.getElem?_eq_getElem (by omega)] at this
  simpa using Option.some.inj this
theorem rc2 {w:World} {b:Nat} {a0 a1:Value} (h0:w.cell? ⟨b,0,none⟩=some a0) (h1:w.cell? ⟨b,1,none⟩=some a1):w.row? b 0 2=some #[a0,a1]:=row_of_cells 1 _ rfl (by intro i hi;rcases i with _|_|i;exact h0;exact h1;exact absurd hi (by omega))
theorem rc3 {w:World} {b:Nat} {a0 a1 a2:Value} (h0:w.cell? ⟨b,0,none⟩=some a0) (h1:w.cell? ⟨b,1,none⟩=some a1) (h2:w.cell? ⟨b,2,none⟩=some a2):w.row? b 0 3=some #[a0,a1,a2]:=row_of_cells 2 _ rfl (by intro i hi;rcases i with _|_|_|i;exact h0;exact h1;exact h2;exact absurd hi (by omega))
theorem rc5 {w:World} {b:Nat} {a0 a1 a2 a3 a4:Value} (h0:w.cell? ⟨b,0,none⟩=some a0) (h1:w.cell? ⟨b,1,none⟩=some a1) (h2:w.cell? ⟨b,2,none⟩=some a2) (h3:w.cell? ⟨b,3,none⟩=some a3) (h4:w.cell? ⟨b,4,none⟩=some a4):w.row? b 0 5=some #[a0,a1,a2,a3,a4]:=row_of_cells 4 _ rfl (by intro i hi;rcases i with _|_|_|_|_|i;exact h0;exact h1;exact h2;exact h3;exact h4;exact absurd hi (by omega))
theorem rc6 {w:World} {b:Nat} {a0 a1 a2 a3 a4 a5:Value} (h0:w.cell? ⟨b,0,none⟩=some a0) (h1:w.cell? ⟨b,1,none⟩=some a1) (h2:w.cell? ⟨b,2,none⟩=some a2) (h3:w.cell? ⟨b,3,none⟩=some a3) (h4:w.cell? ⟨b,4,none⟩=some a4) (h5:w.cell? ⟨b,5,none⟩=some a5):w.row? b 0 6=some #[a0,a1,a2,a3,a4,a5]:=row_of_cells 5 _ rfl (by intro i hi;rcases i with _|_|_|_|_|_|i;exact h0;exact h1;exact h2;exact h3;exact h4;exact h5;exact absurd hi (by omega))
open Go.RowKit

def rowW (n N:Nat):Array Value:=Array.ofFn (n:=n) fun i => .int .u64 (wd N i)
theorem rowW_get (n N i:Nat) (h:i<n):(rowW n N)[i]? = some (.int .u64 (wd N i)):=by simp [rowW,h]
@[simp] theorem rowW_size (n N : Nat) : (rowW n N).size = n := by simp [rowW]
theorem rowW_mod (n N:Nat):rowW n (N%2^(64*n))=rowW n N:=by
 unfold rowW;congr 1;funext i;rw [wd_mod N n i i.2]
theorem rowW_oneCell (n N:Nat):(rowW n N).all (·.oneCell')=true:=by
 rw [Array.all_eq_true];intro i hi;simp [rowW,Value.oneCell']
theorem rowW_set (n N k v:Nat) (hv:v<18446744073709551616):(rowW n N).setIfInBounds k (.int .u64 (v:Int))=rowW n (setw N k v):=by
 apply Array.ext
 ·simp
 ·intro i h1 h2
  simp at h1 h2
  by_cases hi:k=i
  ·subst hi;simp [rowW,wd,wdn_setw_same N k v hv]
  ·rw [Array.getElem_setIfInBounds_ne (by simpa using h1) hi]
   simp [rowW,wd,wdn_setw_other N k v i hv (Ne.symm hi)]
theorem setw_cut (N k:Nat):setw (N%2^(64*k)) k (wdn N k)=N%2^(64*(k+1)):=by
 have h:wdn (N%2^(64*k)) k+wdn N k=wdn N k:=by
  rw [wdn_eq_zero_of_lt _ k k (Nat.mod_lt _ (Nat.two_pow_pos _)) (Nat.le_refl _),Nat.zero_add]
 rw [setw_add _ _ _ _ h,cut_succ,Nat.mul_comm (wdn N k)]
theorem rowW_fill (n N k:Nat):(rowW n (N%2^(64*k))).setIfInBounds k (.int .u64 (wd N k))=rowW n (N%2^(64*(k+1))):=by
 have:=rowW_set n (N%2^(64*k)) k (wdn N k) (wdn_lt N k)
 rw [setw_cut] at this
 exact this
theorem rowW_zero16:rowW 16 0=#[.int .u64 0,.int .u64 0,.int .u64 0,.int .u64 0,.int .u64 0,.int .u64 0,.int .u64 0,.int .u64 0,.int .u64 0,.int .u64 0,.int .u64 0,.int .u64 0,.int .u64 0,.int .u64 0,.int .u64 0,.int .u64 0]:=by
 simp [rowW,Array.ofFn_succ,wd_zero]
def RowAt (w:World) (b o N:Nat):Prop:=∀ i,i<16→w.cell? ⟨b,o+i,none⟩=some (.int .u64 (wd N i))∧b<w.heap.size
theorem RowAt.below {w w':World} {b o N:Nat} (h:RowAt w b o N) (hb:Below w.heap.size w w'):RowAt w' b o N:=fun i hi =>
 ⟨by rw [hb.cell (p:=⟨b,o+i,none⟩) (h i hi).2];exact (h i hi).1,Nat.lt_of_lt_of_le (h i hi).2 hb.size⟩
theorem RowAt.lt {w:World} {b o N:Nat} (h:RowAt w b o N):b<w.heap.size:=(h 0 (by decide)).2
theorem RowAt.of_blk {w:World} {b N:Nat} {t:TypeId} (h:Blk w b (rowW 16 N) t):RowAt w b 0 N:=fun i hi =>
 ⟨h.cell (by rw [Nat.zero_add];exact rowW_get 16 N i hi),h.lt⟩
/-! ### A wide number -/
@[irreducible] def lim : Nat := 2 ^ 1023
theorem lim_eq (n:Nat) (h:n=1023):lim=2^n:=by subst h;unfold lim;rfl
theorem lim_pos:0<lim:=by unfold lim;exact Nat.two_pow_pos 1023
@[irreducible] def W16 : Nat := 2 ^ (64 * 16)
theorem W16_eq (n:Nat) (h:n=16):W16=2^(64*n):=by subst h;unfold W16;rfl
theorem W16_lt {N n:Nat} (hN:N<W16) (h:n=16):N<2^(64*n):=by rw [← W16_eq n h];exact hN
def LtW (N k:Nat):Prop:=N<2^(64*k)
theorem LtW.of_eq {N k:Nat} (hk:k=16) (hN:N<W16):LtW N k:=W16_lt hN hk
theorem LtW.of16 {N:Nat} (hN:N<W16):LtW N 16 := .of_eq rfl hN
theorem LtW.div {N k:Nat} (h:LtW N k):N/2^(64*k)=0:=Nat.div_eq_of_lt h
theorem ret_int {k:IntKind} {a b:Int} (h:a=b):Ending.returned (.int k a) = .returned (.int k b):=by rw [h]
theorem lim_le_pow (n:Nat) (h:1023≤n):lim≤2^n:=by unfold lim;exact pow2_le 1023 n h
theorem lim_le:lim≤W16:=by
 have h:∀ n,n=16→lim≤2^(64*n):=fun n hn=>lim_le_pow _ (by omega)
 have:=h 16 rfl
 rwa [← W16_eq 16 rfl] at this
theorem W16_pos:0<W16:=Nat.lt_of_lt_of_le lim_pos lim_le
theorem lim_bl (N:Nat):bl N≤1023↔N<lim:=by unfold lim;exact bl_le_iff N 1023
structure WI where
 v:Option Int
 ok:∀ z,v=some z→z.natAbs<lim
theorem WI.ext' {x y:WI} (h:x.v=y.v):x=y:=by cases x;cases y;cases h;rfl
def WI.over:WI:=⟨none,fun _ h=>by cases h⟩
def WI.of (z:Int):WI:=⟨if z.natAbs<lim then some z else none,fun y h=>by
 split at h
 ·cases h;assumption
 ·cases h⟩
def cellsI (neg over:Bool) (N:Nat):Array Value:=#[.bool neg,.bool over]++rowW 16 N
def WI.cells (x:WI):Array Value:=match x.v with
 | none=>cellsI false true 0
 | some z=>cellsI (decide (z<0)) false z.natAbs
@[simp] theorem cellsI_size (n o : Bool) (N : Nat) : (cellsI n o N).size = 18 := by simp [cellsI]
theorem cellsI_0 (n o:Bool) (N:Nat):(cellsI n o N)[0]? = some (.bool n):=by simp [cellsI]
theorem cellsI_1 (n o:Bool) (N:Nat):(cellsI n o N)[1]? = some (.bool o):=by simp [cellsI]
theorem cellsI_word (n o:Bool) (N i:Nat) (h:i<16):(cellsI n o N)[2+i]? = some (.int .u64 (wd N i)):=by
 unfold cellsI
 rw [Array.getElem?_append_right (by simp)]
 simp only [List.size_toArray,List.length_cons,List.length_nil]
 rw [show 2+i-(0+1+1)=i by omega,rowW_get 16 N i h]
@[simp] theorem WI.cells_size (x : WI) : x.cells.size = 18 := by unfold WI.cells; split <;> simp
def WI.ng (x:WI):Bool:=match x.v with|none=>false|some z=>decide (z<0)
def WI.ov (x:WI):Bool:=x.v.isNone
def WI.sz (x:WI):Nat:=match x.v with|none=>0|some z=>z.natAbs
theorem WI.cells_eq (x:WI):x.cells=cellsI x.ng x.ov x.sz:=by
 unfold WI.cells WI.ng WI.ov WI.sz;cases x.v <;> rfl
theorem WI.sz_lt (x:WI):x.sz<lim:=by
 unfold WI.sz;cases h:x.v with
 | none=>exact lim_pos
 | some z=>exact x.ok z h
theorem WI.sz_lt' (x:WI):x.sz<W16:=Nat.lt_of_lt_of_le x.sz_lt lim_le
theorem cellsI_oneCell (n o:Bool) (N:Nat):(cellsI n o N).all (·.oneCell')=true:=by
 rw [Array.all_eq_true];intro i hi
 simp only [cellsI,rowW,Array.getElem_append,Array.getElem_ofFn]
 split
 ·rename_i h;simp at h;rcases i with _|_|i <;> first|rfl|omega
 ·rfl
@[simp] theorem cellsI_all (n o : Bool) (N : Nat) : (cellsI n o N).extract 0 18 = cellsI n o N := by
  have:=Array.extract_size (xs:=cellsI n o N);rwa [cellsI_size] at this
@[simp] theorem cellsI_size_part (n o : Bool) (N : Nat) : (cellsI n o N).extract 2 18 = rowW 16 N := by
  unfold cellsI
  rw [Array.extract_append];simp
@[simp] theorem rowW_all (N : Nat) : (rowW 16 N).extract 0 16 = rowW 16 N := by
  have:=Array.extract_size (xs:=rowW 16 N);rwa [rowW_size] at this
theorem RowAt.of_box {w:World} {b N:Nat} {n o:Bool} {t:TypeId} (h:Blk w b (cellsI n o N) t):RowAt w b 2 N:=fun i hi =>
 ⟨h.cell (cellsI_word n o N i hi),h.lt⟩
theorem WI.cells_0 (x:WI):x.cells[0]? = some (.bool x.ng):=by rw [x.cells_eq];exact cellsI_0 _ _ _
theorem WI.cells_1 (x:WI):x.cells[1]? = some (.bool x.ov):=by rw [x.cells_eq];exact cellsI_1 _ _ _
@[simp] theorem WI.cells_all (x : WI) : x.cells.extract 0 18 = x.cells := by rw [x.cells_eq]; simp
@[simp] theorem WI.cells_size_part (x : WI) : x.cells.extract 2 18 = rowW 16 x.sz := by rw [x.cells_eq]; simp
@[simp] theorem rowW_ones (n N : Nat) : ones (rowW n N) = true := rowW_oneCell n N
@[simp] theorem cellsI_ones (n o : Bool) (N : Nat) : ones (cellsI n o N) = true := cellsI_oneCell n o N
@[simp] theorem WI.cells_ones (x : WI) : ones x.cells = true := by rw [x.cells_eq]; simp
theorem RowAt.of_wi {w:World} {b:Nat} {x:WI} {t:TypeId} (h:Blk w b x.cells t):RowAt w b 2 x.sz := .of_box (h.of_eq x.cells_eq)
theorem getElem_of_some {c:Array Value} {i:Nat} {v:Value} (h:c[i]? = some v) (hi:i<c.size):c[i]=v:=by
 rw [Array.getElem?_eq_getElem hi] at h;exact Option.some.inj h
@[simp] theorem cellsI_g0 (n o : Bool) (N : Nat) (h : 0 < (cellsI n o N).size) : (cellsI n o N)[0] = .bool n := getElem_of_some (cellsI_0 n o N) h
@[simp] theorem cellsI_g1 (n o : Bool) (N : Nat) (h : 1 < (cellsI n o N).size) : (cellsI n o N)[1] = .bool o := getElem_of_some (cellsI_1 n o N) h
@[simp] theorem WI.cells_g0 (x : WI) (h : 0 < x.cells.size) : x.cells[0] = .bool x.ng := getElem_of_some x.cells_0 h
@[simp] theorem WI.cells_g1 (x : WI) (h : 1 < x.cells.size) : x.cells[1] = .bool x.ov := getElem_of_some x.cells_1 h
@[simp] theorem cellsI_set0 (n o x : Bool) (N : Nat) : (cellsI n o N).setIfInBounds 0 (.bool x) = cellsI x o N := by
  unfold cellsI;rw [Array.setIfInBounds_append_left (by simp)];rfl
@[simp] theorem cellsI_set1 (n o x : Bool) (N : Nat) : (cellsI n o N).setIfInBounds 1 (.bool x) = cellsI n x N := by
  unfold cellsI;rw [Array.setIfInBounds_append_left (by simp)];rfl
@[simp] theorem cellsI_lset0 (n o x : Bool) (N : Nat) : (cellsI n o N).toList.set 0 (.bool x) = (cellsI x o N).toList := by
  rw [← cellsI_set0 n o x N,Array.toList_setIfInBounds]
@[simp] theorem cellsI_lset1 (n o x : Bool) (N : Nat) : (cellsI n o N).toList.set 1 (.bool x) = (cellsI n x N).toList := by
  rw [← cellsI_set1 n o x N,Array.toList_setIfInBounds]
@[simp] theorem cellsI_ne (n o : Bool) (N : Nat) : (cellsI n o N = #[]) = False := by
  apply eq_false;intro h;have:=cellsI_size n o N;rw [h] at this;cases this
@[simp] theorem splice_cellsI (n o : Bool) (N M : Nat) : splice (cellsI n o N) 2 (rowW 16 M) = cellsI n o M := by
  unfold splice cellsI
  apply Array.ext'
  simp
@[simp] theorem fold_cellsI (n o : Bool) (N M : Nat) : Array.foldl (fun (cs : Array Value) (x : Value × Nat) => cs.setIfInBounds (2 + x.snd) x.fst) (cellsI n o N) (rowW 16 M).zipIdx 0 16 = cellsI n o M := by
  have:=foldl_splice (cellsI n o N) (rowW 16 M) 2 (by simp)
  rw [splice_cellsI] at this
  have h16:(rowW 16 M).zipIdx.size=16:=by rw [Array.size_zipIdx,rowW_size]
  rw [h16] at this
  exact this
/-! ### What is reckoned -/
def WI.neg (x:WI):WI:=match x.v with|some a=>WI.of (-a)|none=>WI.over
def WI.add (x y:WI):WI:=match x.v,y.v with|some a,some b=>WI.of (a+b)|_,_=>WI.over
def WI.sub (x y:WI):WI:=x.add y.neg
def WI.mul (x y:WI):WI:=match x.v,y.v with|some a,some b=>WI.of (a*b)|_,_=>WI.over
def WI.sign (x:WI):Int:=match x.v with|some a=>a.sign|none=>0
theorem WI.of_over {z:Int} (h:¬ z.natAbs<lim):WI.of z=WI.over:=by apply WI.ext';unfold WI.of WI.over;exact if_neg h
theorem WI.of_v {z:Int} (h:z.natAbs<lim):(WI.of z).v=some z:=by unfold WI.of;exact if_pos h
def sgn (neg:Bool) (N:Nat):Int:=if neg then -(N:Int) else N
theorem sgn_abs (n:Bool) (N:Nat):(sgn n N).natAbs=N:=by unfold sgn;split <;> omega
theorem WI.of_sgn_over {n:Bool} {N:Nat} (h:1023<bl N):(WI.of (sgn n N)).cells=cellsI false true 0:=by
 rw [WI.of_over]
 ·rfl
 ·rw [sgn_abs,← lim_bl];omega
theorem WI.of_sgn {n:Bool} {N:Nat} (h:bl N≤1023):(WI.of (sgn n N)).cells=cellsI (n&&(decide (N≠0))) false N:=by
 have hl:(sgn n N).natAbs<lim:=by rw [sgn_abs];exact (lim_bl N).1 h
 rw [WI.cells_eq]
 unfold WI.ng WI.ov WI.sz
 rw [WI.of_v hl]
 simp only [sgn_abs,Option.isNone_some]
 congr 1
 cases n
 ·simp [sgn]
 ·rw [Bool.true_and,decide_eq_decide];unfold sgn;simp only [if_true];omega

def Sm (k:Nat) (z:Int):Prop:=z.natAbs≤2^k
theorem Sm.mul {j k:Nat} {a b:Int} (ha:Sm j a) (hb:Sm k b):Sm (j+k) (a*b):=by
 unfold Sm at *;rw [Int.natAbs_mul,Nat.pow_add];exact Nat.mul_le_mul ha hb
theorem Sm.mono {j k:Nat} {a:Int} (ha:Sm j a) (h:j≤k):Sm k a:=Nat.le_trans ha (pow2_le j k h)
theorem Sm.add {k:Nat} {a b:Int} (ha:Sm k a) (hb:Sm k b):Sm (k+1) (a+b):=by
 unfold Sm at *;rw [Nat.pow_succ];omega
theorem Sm.neg {k:Nat} {a:Int} (ha:Sm k a):Sm k (-a):=by
 unfold Sm at *;rw [Int.natAbs_neg];exact ha
theorem Sm.sub {k:Nat} {a b:Int} (ha:Sm k a) (hb:Sm k b):Sm (k+1) (a-b):=by
 rw [Int.sub_eq_add_neg];exact ha.add hb.neg
theorem Sm.lim {k:Nat} {a:Int} (ha:Sm k a) (h:k≤1022):a.natAbs<lim:=by
 have key:∀ n,k<n→a.natAbs<2^n:=fun n hn=>Nat.lt_of_le_of_lt ha (Nat.pow_lt_pow_right (by decide) hn)
 rw [lim_eq 1023 rfl];exact key 1023 (by omega)
theorem Sm.of64 {z:Int} (h1 : -9223372036854775808≤z) (h2:z≤9223372036854775807):Sm 63 z:=by
 unfold Sm;omega
theorem WI.of_add {a b:Int} (ha:a.natAbs<lim) (hb:b.natAbs<lim):(WI.of a).add (WI.of b)=WI.of (a+b):=by
 unfold WI.add;rw [WI.of_v ha,WI.of_v hb]
theorem WI.of_neg {a:Int} (ha:a.natAbs<lim):(WI.of a).neg=WI.of (-a):=by
 unfold WI.neg;rw [WI.of_v ha]
theorem WI.of_sub {a b:Int} (ha:a.natAbs<lim) (hb:b.natAbs<lim):(WI.of a).sub (WI.of b)=WI.of (a-b):=by
 unfold WI.sub;rw [WI.of_neg hb,WI.of_add ha (by rw [Int.natAbs_neg];exact hb),Int.sub_eq_add_neg]
theorem WI.of_mul {a b:Int} (ha:a.natAbs<lim) (hb:b.natAbs<lim):(WI.of a).mul (WI.of b)=WI.of (a*b):=by
 unfold WI.mul;rw [WI.of_v ha,WI.of_v hb]
theorem WI.of_sign {a:Int} (ha:a.natAbs<lim):(WI.of a).sign=a.sign:=by
 unfold WI.sign;rw [WI.of_v ha]
open Go.RowKit

section
variable {P:Program}
theorem run_part_row (e:TypeId) (he:P.underlying e=some (.int .u64)) (w:World) (n N i:Nat) (h:i<n) :
  (part e (rowW n N) i).run P w = .ok (.int .u64 (wd N i)) w:=by
 have hagg:(isAgg e).run P w = .ok false w:=by
  unfold isAgg;rw [Sem.run_bind,run_underlying he w];rfl
 unfold part
 rw [Sem.run_bind,hagg]
 simp only [Result.andThen_ok,Bool.false_eq_true,if_false,rowW_get n N i h]
 rfl
theorem equalIn_words (d:Nat) (e:TypeId) (he:P.underlying e=some (.int .u64)) (n N M:Nat) :
  ∀ (l:List Nat) (w:World),(∀ i ∈ l,i<n) →
  ((forIn (m := Sem) l ((none, ()) : Option Bool × Unit) fun i _ => do
      let a ← part e (rowW n N) (i*1)
      let b ← part e (rowW n M) (i*1)
      let r ← Op.equalIn (d+1) e a b
      if (!r)=true then pure (ForInStep.done (some false,())) else pure (ForInStep.yield (none,()))) >>= fun r =>
       match r.fst with|some a=>pure a|none=>pure true).run P w = .ok (l.all fun i=>decide (wd N i=wd M i)) w
 | [],w,_=>by simp
 | i :: l,w,h=>by
  have ih:=equalIn_words d e he n N M l w (fun j hj=>h j (List.mem_cons_of_mem _ hj))
  have hi:=h i (List.mem_cons_self ..)
  simp only [Sem.run_bind] at ih ⊢
  simp only [List.forIn_cons,Sem.run_bind,Nat.mul_one,run_part_row e he w n _ i hi,Result.andThen_ok,run_equalIn_int w d e .u64 .u64 _ _ he]
  by_cases hc:wd N i=wd M i
  ·simp only [hc,beq_self_eq_true,Bool.not_true,Bool.false_eq_true,if_false,Sem.run_pure,Result.andThen_ok,List.all_cons,decide_true,Bool.true_and]
   simpa only [Nat.mul_one] using ih
  ·have hb:(wd N i==wd M i)=false:=by simp [hc]
   simp [hb,hc,Result.andThen_ok]
theorem run_equalIn_row (d:Nat) (t e:TypeId) (n N M:Nat) (w:World) (hu:P.underlying t=some (.array n e)) (he:P.underlying e=some (.int .u64)) (hs:(P.info? e).map (·.size)=some 1) :
  (Op.equalIn (d+2) t (.agg (rowW n N)) (.agg (rowW n M))).run P w = .ok ((List.range n).all fun i=>decide (wd N i=wd M i)) w:=by
 have hz:(sizeOf e).run P w = .ok 1 w:=by
  cases hq:P.info? e with
  | none=>simp [hq] at hs
  | some i => have : i.size = 1 := by simpa [hq] using hs
              simp [sizeOf,typeInfo,hq,this]
 have key:=equalIn_words d e he n N M (List.range n) w (fun i hi=>List.mem_range.1 hi)
 rw [Op.equalIn,Sem.run_bind,run_underlying hu]
 simp only [Result.andThen_ok,Sem.run_bind,hz]
 simp only [Sem.run_bind] at key
 rw [Std.Legacy.Range.forIn_eq_forIn_range']
 simp only [Std.Legacy.Range.size,Nat.sub_zero,Nat.add_sub_cancel,Nat.div_one,← List.range_eq_range']
 refine Eq.trans ?_ key
 congr 1
 funext a w'
 cases a.fst <;> rfl
end
theorem words_zero (N:Nat) (hN:N<W16):((List.range 16).all fun i=>decide (wd N i=wd 0 i))=decide (N=0):=by
 by_cases h:N=0
 ·subst h;simp
 ·simp only [h,decide_false]
  rw [Bool.eq_false_iff]
  intro hall
  rw [List.all_eq_true] at hall
  apply h
  refine eq_of_wdn 16 N 0 (LtW.of16 hN) (LtW.of16 W16_pos) fun i hi=>?_
  have:=of_decide_eq_true (hall i (List.mem_range.2 hi))
  unfold wd at this;omega
def eqW (N M:Nat):Bool:=(List.range 16).all fun i=>decide (wd N i=wd M i)
theorem eqW_zero (N:Nat) (hN:N<W16):eqW N 0=decide (N=0):=words_zero N hN
open Go.RowKit

theorem below_of_regrown {w w':World} (h:∃ p:Regrown,w'=Go.Sort.grow (redrawn w p.d) p.os):Below w.heap.size w w':=by
 obtain ⟨⟨d,os⟩,rfl⟩:=h;exact below_regrown w d os
end Go.Proofs.YtechbdnhalmobaaGreatDoor
