/- Laws and walks that the claim names. -/
import Derived.Test.YtnoidlacjiafdaaGreatBE
import Derived.Deep.Cut
namespace Go.Proofs.YtnoidlacjiafdaaGreat
set_option linter.unusedSimpArgs false
set_option linter.unusedVariables false
set_option maxRecDepth 100000
set_option maxHeartbeats 16000000
open Go.RowKit
structure ah (g:Nat) (w w':World):Prop where
 os:w'.os=w.os
 tape:w'.tape=w.tape
 output:w'.output=w.output
 size:w.heap.size≤w'.heap.size
 block:∀ k,k<w.heap.size→k≠g→w'.heap[k]? = w.heap[k]?
section
variable {g:Nat} {w w' w'':World}
theorem ah.refl:ah g w w:=⟨rfl,rfl,rfl,Nat.le_refl _,fun _ _ _=>rfl⟩
theorem ah.of_below (h:Below w.heap.size w w'):ah g w w':=⟨h.os,h.tape,h.output,h.size,fun k hk _=>h.block k hk⟩
theorem ah.trans (h:ah g w w') (h':ah g w' w''):ah g w w'' :=
 ⟨h'.os.trans h.os,h'.tape.trans h.tape,h'.output.trans h.output,Nat.le_trans h.size h'.size,fun k hk hg=>(h'.block k (Nat.lt_of_lt_of_le hk h.size) hg).trans (h.block k hk hg)⟩
theorem ah.alloc (h:ah g w w') (o:Obj):ah g w (w'.alloc o) :=
 ⟨h.os,h.tape,h.output,by have:=h.size;simp;omega,fun k hk hg=>(Below.heap_alloc w' o k (Nat.lt_of_lt_of_le hk h.size)).trans (h.block k hk hg)⟩
theorem ah.drew (h:ah g w w'):ah g w w'.drew:=⟨h.os,h.tape,h.output,h.size,h.block⟩
theorem ah.setCell (h:ah g w w') (i:Nat) (v:Value):ah g w (w'.setCell ⟨g,i,none⟩ v) :=
 ⟨h.os,h.tape,h.output,by have:=h.size;simpa using this,fun k hk hg=>(heap_setCell_other w' ⟨g,i,none⟩ k v hg).trans (h.block k hk hg)⟩
theorem ah.fc (h:ah g w w') {b:Nat} (hb:w.heap.size≤b) (i:Nat) (v:Value):ah g w (w'.setCell ⟨b,i,none⟩ v) :=
 ⟨h.os,h.tape,h.output,by have:=h.size;simpa using this,fun k hk hg=>(heap_setCell_other w' ⟨b,i,none⟩ k v (by simp only;omega)).trans (h.block k hk hg)⟩
theorem ah.blk (h:ah g w w') {b:Nat} {c:Array Value} {t:TypeId} (hb:Blk w b c t) (hne:b≠g):Blk w' b c t:=(h.block b hb.lt hne).trans hb
theorem ah.below {B:Nat} {w0:World} (h:ah g w w') (hb:Below B w0 w) (hB:B≤w0.heap.size) (hg:B≤g):Below B w0 w' :=
 ⟨h.os.trans hb.os,h.tape.trans hb.tape,h.output.trans hb.output,Nat.le_trans hb.size h.size,fun k hk=>(h.block k (by have:=hb.size;omega) (by omega)).trans (hb.block k hk)⟩
end
def blk (l:List WI):Array Value:=(l.flatMap (·.cells.toList)).toArray
theorem WI.dG (x:WI):x.cells.toList.length=18:=by rw [x.dc];simp
@[simp] theorem js (l : List WI) : (blk l).size = 18 * l.length := by
  unfold blk;induction l with
  | nil=>rfl
  | cons a l ih =>
   simp only[List.size_toArray,List.flatMap_cons,List.length_append,List.length_cons,WI.dG] at ih ⊢;omega
theorem dB (l:List WI):(blk l).toList=l.flatMap (·.cells.toList):=rfl
theorem gL (l:List WI) (k:Nat) (x:WI) (h:l[k]? = some x):(blk l).extract (18*k) (18*k+18)=x.cells:=by
 apply Array.ext';simp only[Array.toList_extract,dB,List.extract_eq_take_drop];induction l generalizing k with
 | nil=>simp at h
 | cons a l ih =>
  rw[List.flatMap_cons];rcases k with _|k
  ·obtain rfl:a=x:=by simpa using h
   simp
  ·have:=ih k (by simpa using h);rw[show 18*(k+1)=18+18*k by omega,List.drop_append,WI.dG,List.drop_eq_nil_of_le (by rw[WI.dG];omega),List.nil_append];rw[show 18+18*k-18=18*k by omega,show 18+18*k+18-(18+18*k)=18*k+18-18*k by omega];exact this
theorem fS (l:List WI) (k:Nat) (x:WI) (h:k<l.length):splice (blk l) (18*k) x.cells=blk (l.set k x):=by
 apply Array.ext';have hs:x.cells.size=18:=by have:=x.dG;rwa [Array.length_toList] at this
 simp only[splice,dB,hs];induction l generalizing k with
 | nil=>simp at h
 | cons a l ih =>
  rcases k with _|k
  ·simp
  ·have:=ih k (by simpa using h);simp only[List.flatMap_cons,List.set_cons_succ];rw[show 18*(k+1)=18+18*k by omega,List.take_append,List.drop_append];rw[WI.dG,List.take_of_length_le (by rw[WI.dG];omega),List.drop_eq_nil_of_le (by rw[WI.dG];omega)];rw[show 18+18*k-18=18*k by omega,show 18+18*k+18-18=18*k+18 by omega,List.nil_append,List.append_assoc,List.append_assoc];congr 1
   rw[← List.append_assoc];exact this
@[simp] theorem FU (l : List WI) : ones (blk l) = true := by
  unfold ones;rw[← Array.all_toList,dB,List.all_flatMap];rw[List.all_eq_true];intro a _;have:=a.tE;unfold ones at this;rw[← Array.all_toList] at this;exact this
@[simp] theorem Gl (l : List WI) (n : Nat) (h : n = 18 * l.length) : (blk l).extract 0 n = blk l := by
  have:=Array.extract_size (xs:=blk l);rw[js] at this;rw[h];exact this
@[simp] theorem gK (a : WI) (l : List WI) : (blk (a :: l)).extract 0 18 = a.cells := gL _ 0 a rfl
@[simp] theorem gJ (a b : WI) (l : List WI) : (blk (a :: b :: l)).extract 18 36 = b.cells := gL _ 1 b rfl
@[simp] theorem iK (a b c : WI) (l : List WI) : (blk (a :: b :: c :: l)).extract 36 54 = c.cells := gL _ 2 c rfl
@[simp] theorem jQ (a b c d : WI) (l : List WI) : (blk (a :: b :: c :: d :: l)).extract 54 72 = d.cells := gL _ 3 d rfl
@[simp] theorem jP (a b c d e : WI) (l : List WI) : (blk (a :: b :: c :: d :: e :: l)).extract 72 90 = e.cells := gL _ 4 e rfl
@[simp] theorem tG (a b c d e f : WI) (l : List WI) : (blk (a :: b :: c :: d :: e :: f :: l)).extract 90 108 = f.cells := gL _ 5 f rfl
@[simp] theorem mS (a b c d e f g : WI) (l : List WI) : (blk (a :: b :: c :: d :: e :: f :: g :: l)).extract 108 126 = g.cells := gL _ 6 g rfl
@[simp] theorem Gy (x a : WI) (l : List WI) : splice (blk (a :: l)) 0 x.cells = blk (x :: l) := fS _ 0 x (by simp)
@[simp] theorem Em (x a b c d : WI) (l : List WI) : splice (blk (a :: b :: c :: d :: l)) 54 x.cells = blk (a :: b :: c :: x :: l) := fS _ 3 x (by simp)
@[simp] theorem Ek (x a b c d e : WI) (l : List WI) : splice (blk (a :: b :: c :: d :: e :: l)) 72 x.cells = blk (a :: b :: c :: d :: x :: l) := fS _ 4 x (by simp)
theorem dy:cellsI false false 0=(WI.of 0).cells:=by
 rw[WI.dc];unfold WI.ng WI.ov WI.sz;rw[WI.of_v (by simpa using dP)];rfl
/-! ### What is built of parts -/
theorem aP (place:Nat→Option (Nat × Nat)) (l:List WI) (k i:Nat) (x:WI) (rest:List (Nat × Value)) (hp:place i=some (18*k,18)) (h:k<l.length) :
  Instr.fill place (blk l) ((i,.agg x.cells) :: rest)=Instr.fill place (blk (l.set k x)) rest:=by
 have hs:x.cells.size=18:=by have:=x.dG;rwa [Array.length_toList] at this
 have hf:=je (blk l) x.cells (18*k) (by rw[hs,js];omega);rw[fS l k x h] at hf
 have hc:¬ (decide ((Value.agg x.cells).cells.size≠18)||decide (18*k+(Value.agg x.cells).cells.size > (blk l).size))=true:=by
  simp only[Value.cells,hs,js];simp;omega
 rw[Instr.fill];simp only[hp];rw[if_neg hc];congr 1
@[go_sem ↓] theorem nu (w : World) : (zeroValue 49).run Tryz.prog w = .ok (.agg (blk [WI.of 0, WI.of 0, WI.of 0, WI.of 0, WI.of 0, WI.of 0, WI.of 0])) w := by
  have h:(blk [WI.of 0,WI.of 0,WI.of 0,WI.of 0,WI.of 0,WI.of 0,WI.of 0])=cellsI false false 0++cellsI false false 0++cellsI false false 0++cellsI false false 0++cellsI false false 0++cellsI false false 0++cellsI false false 0:=by
   rw[dy];apply Array.ext';simp[dB]
  rw[h,eF];exact Tryz.zeroValue49 w
@[go_sem ↓] theorem Gj (P : Program) (w : World) (b o : Nat) : (loadCellsFrom ⟨b, o, none⟩ 0 126 #[]).run P w = gT (w.row? b o 126) w (lcf P b o 126 w) := lcf_row? w b o 126
theorem dZ:(Tryz.prog.info? 49).map (·.size)=some 126:=by kernel_rfl
def kI (P:Program) (t:TypeId) (n:Nat) (parts:Array (Nat × Value)) (w:World):Result Value:=(Instr.buildSlice t n parts).run P w
def rG (P:Program) (t:TypeId) (parts:Array (Nat × Value)) (w:World):Result Value:=(Instr.build t parts).run P w
@[go_sem ↓] theorem EA {P : Program} (ρ : Operand → Value) (dst : Option Tmp) (ty : TypeId) (pos : String) (af : Array Edge) (gd : Option (Nat × Bool)) (a b c d : Operand) (w : World) :
    (execOp ρ ⟨dst,.buildSlice 151 4 #[(0,a),(1,b),(2,c),(3,d)],ty,pos,af,gd⟩).run P w=(kI P 151 4 #[(0,ρ a),(1,ρ b),(2,ρ c),(3,ρ d)] w).andThen fun v w' => .ok (.value v) w':=by
 simp only[execOp,kI,Sem.run_bind,Sem.run_pure,List.map_toArray,List.map_cons,List.map_nil]
@[go_sem ↓] theorem ED {P : Program} (ρ : Operand → Value) (dst : Option Tmp) (ty : TypeId) (pos : String) (af : Array Edge) (gd : Option (Nat × Bool)) (a b c d e f g : Operand) (w : World) :
    (execOp ρ ⟨dst,.build 49 #[(0,a),(1,b),(2,c),(3,d),(4,e),(5,f),(6,g)],ty,pos,af,gd⟩).run P w=(rG P 49 #[(0,ρ a),(1,ρ b),(2,ρ c),(3,ρ d),(4,ρ e),(5,ρ f),(6,ρ g)] w).andThen fun v w' => .ok (.value v) w':=by
 simp only[execOp,rG,Sem.run_bind,Sem.run_pure,List.map_toArray,List.map_cons,List.map_nil]
@[go_sem ↓] theorem EI {P : Program} (ρ : Operand → Value) (dst : Option Tmp) (ty : TypeId) (pos : String) (af : Array Edge) (gd : Option (Nat × Bool)) (a b c f g : Operand) (w : World) :
    (execOp ρ ⟨dst,.build 49 #[(0,a),(1,b),(2,c),(5,f),(6,g)],ty,pos,af,gd⟩).run P w=(rG P 49 #[(0,ρ a),(1,ρ b),(2,ρ c),(5,ρ f),(6,ρ g)] w).andThen fun v w' => .ok (.value v) w':=by
 simp only[execOp,rG,Sem.run_bind,Sem.run_pure,List.map_toArray,List.map_cons,List.map_nil]
@[go_sem] theorem CX {α β : Type} (v : α) (w : World) (k : α → World → Result β) : (Result.ok v w).andThen k = k v w := rfl
theorem gC (place:Nat→Option (Nat × Nat)) (c:Array Value):Instr.fill place c []=some c:=by rw [Instr.fill]
theorem lS (w:World):(sizeOf 47).run Tryz.prog w = .ok 18 w:=by kernel_rfl
@[go_sem] theorem FV (a b c d e f g : WI) (w : World) : rG Tryz.prog 49 #[(0, .agg a.cells), (1, .agg b.cells), (2, .agg c.cells), (3, .agg d.cells), (4, .agg e.cells), (5, .agg f.cells), (6, .agg g.cells)] w = .ok (.agg (blk [a, b, c, d, e, f, g])) w := by
  unfold rG Instr.build;simp only[Sem.run_bind,nu,Result.andThen_ok,Value.cells,run_underlying Tryz.underlying49];generalize hp:Sem.run Tryz.prog (Array.mapM _ _) w=r;have hr:r = .ok #[(0,18),(18,18),(36,18),(54,18),(72,18),(90,18),(108,18)] w:=by rw[← hp];kernel_rfl
  rw[hr];simp only[Result.andThen_ok]
  rw[aP _ _ 0 0 a _ rfl (by simp),
   aP _ _ 1 1 b _ rfl (by simp),
   aP _ _ 2 2 c _ rfl (by simp),
   aP _ _ 3 3 d _ rfl (by simp),
   aP _ _ 4 4 e _ rfl (by simp),
   aP _ _ 5 5 f _ rfl (by simp),
   aP _ _ 6 6 g _ rfl (by simp),gC]
  simp
@[go_sem] theorem FW (a b c f g : WI) (w : World) : rG Tryz.prog 49 #[(0, .agg a.cells), (1, .agg b.cells), (2, .agg c.cells), (5, .agg f.cells), (6, .agg g.cells)] w = .ok (.agg (blk [a, b, c, WI.of 0, WI.of 0, f, g])) w := by
  unfold rG Instr.build;simp only[Sem.run_bind,nu,Result.andThen_ok,Value.cells,run_underlying Tryz.underlying49];generalize hp:Sem.run Tryz.prog (Array.mapM _ _) w=r;have hr:r = .ok #[(0,18),(18,18),(36,18),(54,18),(72,18),(90,18),(108,18)] w:=by rw[← hp];kernel_rfl
  rw[hr];simp only[Result.andThen_ok]
  rw[aP _ _ 0 0 a _ rfl (by simp),
   aP _ _ 1 1 b _ rfl (by simp),
   aP _ _ 2 2 c _ rfl (by simp),
   aP _ _ 5 5 f _ rfl (by simp),
   aP _ _ 6 6 g _ rfl (by simp),gC]
  simp
theorem vo:(Array.map (fun x=>(Value.agg #[.bool false,.bool false,.int .u64 0,.int .u64 0,.int .u64 0,.int .u64 0,.int .u64 0,.int .u64 0,.int .u64 0,.int .u64 0,.int .u64 0,.int .u64 0,.int .u64 0,.int .u64 0,.int .u64 0,.int .u64 0,.int .u64 0,.int .u64 0]).cells[x%(Value.agg #[.bool false,.bool false,.int .u64 0,.int .u64 0,.int .u64 0,.int .u64 0,.int .u64 0,.int .u64 0,.int .u64 0,.int .u64 0,.int .u64 0,.int .u64 0,.int .u64 0,.int .u64 0,.int .u64 0,.int .u64 0,.int .u64 0,.int .u64 0]).cells.size]!) (Array.range (4*18)))=#[.bool false,.bool false,.int .u64 0,.int .u64 0,.int .u64 0,.int .u64 0,.int .u64 0,.int .u64 0,.int .u64 0,.int .u64 0,.int .u64 0,.int .u64 0,.int .u64 0,.int .u64 0,.int .u64 0,.int .u64 0,.int .u64 0,.int .u64 0]++#[.bool false,.bool false,.int .u64 0,.int .u64 0,.int .u64 0,.int .u64 0,.int .u64 0,.int .u64 0,.int .u64 0,.int .u64 0,.int .u64 0,.int .u64 0,.int .u64 0,.int .u64 0,.int .u64 0,.int .u64 0,.int .u64 0,.int .u64 0]++#[.bool false,.bool false,.int .u64 0,.int .u64 0,.int .u64 0,.int .u64 0,.int .u64 0,.int .u64 0,.int .u64 0,.int .u64 0,.int .u64 0,.int .u64 0,.int .u64 0,.int .u64 0,.int .u64 0,.int .u64 0,.int .u64 0,.int .u64 0]++#[.bool false,.bool false,.int .u64 0,.int .u64 0,.int .u64 0,.int .u64 0,.int .u64 0,.int .u64 0,.int .u64 0,.int .u64 0,.int .u64 0,.int .u64 0,.int .u64 0,.int .u64 0,.int .u64 0,.int .u64 0,.int .u64 0,.int .u64 0]:=by kernel_rfl
theorem xr:(Array.map (fun x=>(Value.agg (cellsI false false 0)).cells[x%(Value.agg (cellsI false false 0)).cells.size]!) (Array.range (4*18)))=blk [WI.of 0,WI.of 0,WI.of 0,WI.of 0]:=by
 have h:blk [WI.of 0,WI.of 0,WI.of 0,WI.of 0]=cellsI false false 0++cellsI false false 0++cellsI false false 0++cellsI false false 0:=by
  rw[dy];apply Array.ext';simp[dB]
 rw[h,eF];exact vo
@[go_sem] theorem Fi (a b c d : WI) (w : World) : kI Tryz.prog 151 4 #[(0, .agg a.cells), (1, .agg b.cells), (2, .agg c.cells), (3, .agg d.cells)] w =
    .ok (.slice (some ⟨w.heap.size,0,none⟩) 4 4) (w.alloc (.cells (blk [a,b,c,d]) 47)):=by
 unfold kI Instr.buildSlice;simp only[Sem.run_bind,Result.andThen_ok,run_underlying Tryz.underlying151,lS];rw[if_neg (by decide),if_neg (by decide)];simp only[Sem.run_bind,Sem.run_pure,Result.andThen_ok,lG];rw[xr,aP _ _ 0 0 a _ rfl (by simp),aP _ _ 1 1 b _ rfl (by simp),aP _ _ 2 2 c _ rfl (by simp),aP _ _ 3 3 d _ rfl (by simp),gC];simp only[newRow,newObj,Sem.run_bind,Sem.run_pure];rfl
@[go_sem ↓] theorem Ez {P : Program} (ρ : Operand → Value) (dst : Option Tmp) (ty : TypeId) (pos : String) (af : Array Edge) (gd : Option (Nat × Bool)) (a b c d e f g : Operand) (w : World) :
    (execOp ρ ⟨dst,.buildSlice 151 7 #[(0,a),(1,b),(2,c),(3,d),(4,e),(5,f),(6,g)],ty,pos,af,gd⟩).run P w=(kI P 151 7 #[(0,ρ a),(1,ρ b),(2,ρ c),(3,ρ d),(4,ρ e),(5,ρ f),(6,ρ g)] w).andThen fun v w' => .ok (.value v) w':=by
 simp only[execOp,kI,Sem.run_bind,Sem.run_pure,List.map_toArray,List.map_cons,List.map_nil]
theorem AF:(Array.map (fun x=>(Value.agg #[.bool false,.bool false,.int .u64 0,.int .u64 0,.int .u64 0,.int .u64 0,.int .u64 0,.int .u64 0,.int .u64 0,.int .u64 0,.int .u64 0,.int .u64 0,.int .u64 0,.int .u64 0,.int .u64 0,.int .u64 0,.int .u64 0,.int .u64 0]).cells[x%(Value.agg #[.bool false,.bool false,.int .u64 0,.int .u64 0,.int .u64 0,.int .u64 0,.int .u64 0,.int .u64 0,.int .u64 0,.int .u64 0,.int .u64 0,.int .u64 0,.int .u64 0,.int .u64 0,.int .u64 0,.int .u64 0,.int .u64 0,.int .u64 0]).cells.size]!) (Array.range (7*18)))=#[.bool false,.bool false,.int .u64 0,.int .u64 0,.int .u64 0,.int .u64 0,.int .u64 0,.int .u64 0,.int .u64 0,.int .u64 0,.int .u64 0,.int .u64 0,.int .u64 0,.int .u64 0,.int .u64 0,.int .u64 0,.int .u64 0,.int .u64 0]++#[.bool false,.bool false,.int .u64 0,.int .u64 0,.int .u64 0,.int .u64 0,.int .u64 0,.int .u64 0,.int .u64 0,.int .u64 0,.int .u64 0,.int .u64 0,.int .u64 0,.int .u64 0,.int .u64 0,.int .u64 0,.int .u64 0,.int .u64 0]++#[.bool false,.bool false,.int .u64 0,.int .u64 0,.int .u64 0,.int .u64 0,.int .u64 0,.int .u64 0,.int .u64 0,.int .u64 0,.int .u64 0,.int .u64 0,.int .u64 0,.int .u64 0,.int .u64 0,.int .u64 0,.int .u64 0,.int .u64 0]++#[.bool false,.bool false,.int .u64 0,.int .u64 0,.int .u64 0,.int .u64 0,.int .u64 0,.int .u64 0,.int .u64 0,.int .u64 0,.int .u64 0,.int .u64 0,.int .u64 0,.int .u64 0,.int .u64 0,.int .u64 0,.int .u64 0,.int .u64 0]++#[.bool false,.bool false,.int .u64 0,.int .u64 0,.int .u64 0,.int .u64 0,.int .u64 0,.int .u64 0,.int .u64 0,.int .u64 0,.int .u64 0,.int .u64 0,.int .u64 0,.int .u64 0,.int .u64 0,.int .u64 0,.int .u64 0,.int .u64 0]++#[.bool false,.bool false,.int .u64 0,.int .u64 0,.int .u64 0,.int .u64 0,.int .u64 0,.int .u64 0,.int .u64 0,.int .u64 0,.int .u64 0,.int .u64 0,.int .u64 0,.int .u64 0,.int .u64 0,.int .u64 0,.int .u64 0,.int .u64 0]++#[.bool false,.bool false,.int .u64 0,.int .u64 0,.int .u64 0,.int .u64 0,.int .u64 0,.int .u64 0,.int .u64 0,.int .u64 0,.int .u64 0,.int .u64 0,.int .u64 0,.int .u64 0,.int .u64 0,.int .u64 0,.int .u64 0,.int .u64 0]:=by kernel_rfl
theorem Dn:(Array.map (fun x=>(Value.agg (cellsI false false 0)).cells[x%(Value.agg (cellsI false false 0)).cells.size]!) (Array.range (7*18)))=blk [WI.of 0,WI.of 0,WI.of 0,WI.of 0,WI.of 0,WI.of 0,WI.of 0]:=by
 have h:blk [WI.of 0,WI.of 0,WI.of 0,WI.of 0,WI.of 0,WI.of 0,WI.of 0]=cellsI false false 0++cellsI false false 0++cellsI false false 0++cellsI false false 0++cellsI false false 0++cellsI false false 0++cellsI false false 0:=by
  rw[dy];apply Array.ext';simp[dB]
 rw[h,eF];exact AF
@[go_sem] theorem Fh (a b c d e f g : WI) (w : World) : kI Tryz.prog 151 7 #[(0, .agg a.cells), (1, .agg b.cells), (2, .agg c.cells), (3, .agg d.cells), (4, .agg e.cells), (5, .agg f.cells), (6, .agg g.cells)] w =
    .ok (.slice (some ⟨w.heap.size,0,none⟩) 7 7) (w.alloc (.cells (blk [a,b,c,d,e,f,g]) 47)):=by
 unfold kI Instr.buildSlice;simp only[Sem.run_bind,Result.andThen_ok,run_underlying Tryz.underlying151,lS];rw[if_neg (by decide),if_neg (by decide)];simp only[Sem.run_bind,Sem.run_pure,Result.andThen_ok,lG];rw[Dn,aP _ _ 0 0 a _ rfl (by simp),aP _ _ 1 1 b _ rfl (by simp),aP _ _ 2 2 c _ rfl (by simp),aP _ _ 3 3 d _ rfl (by simp),aP _ _ 4 4 e _ rfl (by simp),aP _ _ 5 5 f _ rfl (by simp),aP _ _ 6 6 g _ rfl (by simp),gC];simp only[newRow,newObj,Sem.run_bind,Sem.run_pure];rfl
@[go_sem ↓] theorem Ey {P : Program} (ρ : Operand → Value) (dst : Option Tmp) (ty : TypeId) (pos : String) (af : Array Edge) (gd : Option (Nat × Bool)) (a b c d e f g h : Operand) (w : World) :
    (execOp ρ ⟨dst,.buildSlice 151 8 #[(0,a),(1,b),(2,c),(3,d),(4,e),(5,f),(6,g),(7,h)],ty,pos,af,gd⟩).run P w=(kI P 151 8 #[(0,ρ a),(1,ρ b),(2,ρ c),(3,ρ d),(4,ρ e),(5,ρ f),(6,ρ g),(7,ρ h)] w).andThen fun v w' => .ok (.value v) w':=by
 simp only[execOp,kI,Sem.run_bind,Sem.run_pure,List.map_toArray,List.map_cons,List.map_nil]
theorem AE:(Array.map (fun x=>(Value.agg #[.bool false,.bool false,.int .u64 0,.int .u64 0,.int .u64 0,.int .u64 0,.int .u64 0,.int .u64 0,.int .u64 0,.int .u64 0,.int .u64 0,.int .u64 0,.int .u64 0,.int .u64 0,.int .u64 0,.int .u64 0,.int .u64 0,.int .u64 0]).cells[x%(Value.agg #[.bool false,.bool false,.int .u64 0,.int .u64 0,.int .u64 0,.int .u64 0,.int .u64 0,.int .u64 0,.int .u64 0,.int .u64 0,.int .u64 0,.int .u64 0,.int .u64 0,.int .u64 0,.int .u64 0,.int .u64 0,.int .u64 0,.int .u64 0]).cells.size]!) (Array.range (8*18)))=#[.bool false,.bool false,.int .u64 0,.int .u64 0,.int .u64 0,.int .u64 0,.int .u64 0,.int .u64 0,.int .u64 0,.int .u64 0,.int .u64 0,.int .u64 0,.int .u64 0,.int .u64 0,.int .u64 0,.int .u64 0,.int .u64 0,.int .u64 0]++#[.bool false,.bool false,.int .u64 0,.int .u64 0,.int .u64 0,.int .u64 0,.int .u64 0,.int .u64 0,.int .u64 0,.int .u64 0,.int .u64 0,.int .u64 0,.int .u64 0,.int .u64 0,.int .u64 0,.int .u64 0,.int .u64 0,.int .u64 0]++#[.bool false,.bool false,.int .u64 0,.int .u64 0,.int .u64 0,.int .u64 0,.int .u64 0,.int .u64 0,.int .u64 0,.int .u64 0,.int .u64 0,.int .u64 0,.int .u64 0,.int .u64 0,.int .u64 0,.int .u64 0,.int .u64 0,.int .u64 0]++#[.bool false,.bool false,.int .u64 0,.int .u64 0,.int .u64 0,.int .u64 0,.int .u64 0,.int .u64 0,.int .u64 0,.int .u64 0,.int .u64 0,.int .u64 0,.int .u64 0,.int .u64 0,.int .u64 0,.int .u64 0,.int .u64 0,.int .u64 0]++#[.bool false,.bool false,.int .u64 0,.int .u64 0,.int .u64 0,.int .u64 0,.int .u64 0,.int .u64 0,.int .u64 0,.int .u64 0,.int .u64 0,.int .u64 0,.int .u64 0,.int .u64 0,.int .u64 0,.int .u64 0,.int .u64 0,.int .u64 0]++#[.bool false,.bool false,.int .u64 0,.int .u64 0,.int .u64 0,.int .u64 0,.int .u64 0,.int .u64 0,.int .u64 0,.int .u64 0,.int .u64 0,.int .u64 0,.int .u64 0,.int .u64 0,.int .u64 0,.int .u64 0,.int .u64 0,.int .u64 0]++#[.bool false,.bool false,.int .u64 0,.int .u64 0,.int .u64 0,.int .u64 0,.int .u64 0,.int .u64 0,.int .u64 0,.int .u64 0,.int .u64 0,.int .u64 0,.int .u64 0,.int .u64 0,.int .u64 0,.int .u64 0,.int .u64 0,.int .u64 0]++#[.bool false,.bool false,.int .u64 0,.int .u64 0,.int .u64 0,.int .u64 0,.int .u64 0,.int .u64 0,.int .u64 0,.int .u64 0,.int .u64 0,.int .u64 0,.int .u64 0,.int .u64 0,.int .u64 0,.int .u64 0,.int .u64 0,.int .u64 0]:=by kernel_rfl
theorem Dm:(Array.map (fun x=>(Value.agg (cellsI false false 0)).cells[x%(Value.agg (cellsI false false 0)).cells.size]!) (Array.range (8*18)))=blk [WI.of 0,WI.of 0,WI.of 0,WI.of 0,WI.of 0,WI.of 0,WI.of 0,WI.of 0]:=by
 have h:blk [WI.of 0,WI.of 0,WI.of 0,WI.of 0,WI.of 0,WI.of 0,WI.of 0,WI.of 0]=cellsI false false 0++cellsI false false 0++cellsI false false 0++cellsI false false 0++cellsI false false 0++cellsI false false 0++cellsI false false 0++cellsI false false 0:=by
  rw[dy];apply Array.ext';simp[dB]
 rw[h,eF];exact AE
@[go_sem] theorem Fg (a b c d e f g h : WI) (w : World) : kI Tryz.prog 151 8 #[(0, .agg a.cells), (1, .agg b.cells), (2, .agg c.cells), (3, .agg d.cells), (4, .agg e.cells), (5, .agg f.cells), (6, .agg g.cells), (7, .agg h.cells)] w =
    .ok (.slice (some ⟨w.heap.size,0,none⟩) 8 8) (w.alloc (.cells (blk [a,b,c,d,e,f,g,h]) 47)):=by
 unfold kI Instr.buildSlice;simp only[Sem.run_bind,Result.andThen_ok,run_underlying Tryz.underlying151,lS];rw[if_neg (by decide),if_neg (by decide)];simp only[Sem.run_bind,Sem.run_pure,Result.andThen_ok,lG];rw[Dm,aP _ _ 0 0 a _ rfl (by simp),aP _ _ 1 1 b _ rfl (by simp),aP _ _ 2 2 c _ rfl (by simp),aP _ _ 3 3 d _ rfl (by simp),aP _ _ 4 4 e _ rfl (by simp),aP _ _ 5 5 f _ rfl (by simp),aP _ _ 6 6 g _ rfl (by simp),aP _ _ 7 7 h _ rfl (by simp),gC];simp only[newRow,newObj,Sem.run_bind,Sem.run_pure];rfl
theorem aL {w:World} {b o n:Nat} {cs:Array Value} (h:w.row? b o n=some cs):b<w.heap.size:=by
 unfold World.row? at h;split at h
 ·rename_i c t fr hb;exact ja hb
 ·cases h
theorem aA {w:World} {b o n:Nat} {cs:Array Value} (h:w.row? b o n=some cs) {fr:Nat→Option eV} {g:Nat→Nat} {N:List Nat} (p:Inw w.drew fr g N):p.w.row? b o n=some cs:=by
 have hb:Below w.heap.size w p.w:=⟨p.low.os,p.low.tape,p.low.output,p.low.size,p.low.block⟩;rw[Below.row? hb b o n (aL h)];exact h
def cK (a b c d:WI):WI:=((WI.of 0).add (a.mul b)).add (c.mul d)
def Fe (a b c d:WI) (k:Nat):WI:=if k=0 then WI.of 0 else if k=1 then (WI.of 0).add (a.mul b) else cK a b c d
theorem oO (a b c d:WI) (g:Nat) (w:World) (hg:w.heap[g]? = some (.cells (blk [a,b,c,d]) 47 (0,0))) :
  Calls Tryz.prog 113 #[.slice (some ⟨g,0,none⟩) 4 4] w fun e w'=>e = .returned (.agg (cK a b c d).cells)∧Below w.heap.size w w':=by
 have HG:Hid (Blk w g (blk [a,b,c,d]) 47):=hg;have lg:=HG.out.lt;clear hg;go_enter Tryz.func113,Tryz.ntmps113;go_wp2
 go_loopw [4] (fun i wr=>∃ k:Nat,k≤2∧i = .int .i64 (2*k:Nat)∧Hid (Below w.heap.size w wr)∧Hid (Blk wr (w.heap.size+1) (Fe a b c d k).cells 47)∧Hid (Blk wr w.heap.size (WI.of 0).cells 47)) (fun i _=>4-(intOf i).toNat)
 case atStart =>
  refine⟨0,by omega,rfl,(show Below _ _ _ from ad),?_,?_⟩
  ·show Blk _ _ (WI.of 0).cells _;rw[← dy];exact Blk.new' _ _ _ (by simp)
  ·rw[← dy];exact(Blk.new _ _ _).alloc _
 case round =>
  obtain⟨k,hk,rfl,HB,H1,H0⟩:=hrel;rcases k with _|_|_|k
  ·have g1:wr.row? (w.heap.size+1) 0 18=some (WI.of 0).cells:=H1.out.row?_all 18 (by simp);have g2:wr.row? g 0 18=some a.cells:=by rw[(HG.out.keep HB.out).row? 0 18 (by simp)];simp
   have g3:wr.row? g 18 18=some b.cells:=by rw[(HG.out.keep HB.out).row? 18 18 (by simp)];simp
   have f1:=@aA _ _ _ _ _ g1;have f2:=@aA _ _ _ _ _ g2;have f3:=@aA _ _ _ _ _ g3;go_wp2
   refine aB 12 (fun _=>none) (fun _=>[]) (by kernel_rfl) (by kernel_rfl) ?_;apply Eb;apply Eb;apply Eb;apply Eb;apply Eb;apply Eb;apply Eb;apply Eb;apply Eb;apply Eb;apply Eb;apply Eb;refine⟨[],fun gg NN hN=>?_⟩;simp only[List.take_succ_cons,List.take_zero,List.drop_succ_cons,List.drop_zero];(repeat (refine bi rfl ?_;go_big_quiet_step (first|exact rfl|(first|exact aF (cN _ _ _)|exact aF (mV _ _ _)));refine wpQuiet_nil ⟨rfl,?_⟩));refine bF ?_;intro w' hb _ _;have hb':Below wr.heap.size wr w':=hb;have B1:=Lh (H1.out.keep hb');have B0:=Lh (H0.out.keep hb');have hp:w'.put? (w.heap.size+1) 0 ((WI.of 0).add (a.mul b)).cells=some (w'.putRow (w.heap.size+1) 0 ((WI.of 0).add (a.mul b)).cells):=B1.out.put? 0 _ (by simp) (by simp);go_wp2
   refine⟨⟨1,by omega,rfl,?_,?_,?_⟩,by simp[intOf]⟩
   ·exact ar (Below.trans HB.out (hb'.mono HB.out.size)) (by omega) _ _
   ·exact(B1.out.aK 0 _).of_eq (by rw[dw _ _ (by simp)];rfl)
   ·exact B0.out.aC (by omega) 0 _
  ·have g1:wr.row? (w.heap.size+1) 0 18=some ((WI.of 0).add (a.mul b)).cells:=H1.out.row?_all 18 (by simp);have g2:wr.row? g 36 18=some c.cells:=by rw[(HG.out.keep HB.out).row? 36 18 (by simp)];simp
   have g3:wr.row? g 54 18=some d.cells:=by rw[(HG.out.keep HB.out).row? 54 18 (by simp)];simp
   have f1:=@aA _ _ _ _ _ g1;have f2:=@aA _ _ _ _ _ g2;have f3:=@aA _ _ _ _ _ g3;go_wp2
   refine aB 12 (fun _=>none) (fun _=>[]) (by kernel_rfl) (by kernel_rfl) ?_;apply Eb;apply Eb;apply Eb;apply Eb;apply Eb;apply Eb;apply Eb;apply Eb;apply Eb;apply Eb;apply Eb;apply Eb;refine⟨[],fun gg NN hN=>?_⟩;simp only[List.take_succ_cons,List.take_zero,List.drop_succ_cons,List.drop_zero];(repeat (refine bi rfl ?_;go_big_quiet_step (first|exact rfl|(first|exact aF (cN _ _ _)|exact aF (mV _ _ _)));refine wpQuiet_nil ⟨rfl,?_⟩));refine bF ?_;intro w' hb _ _;have hb':Below wr.heap.size wr w':=hb;have B1:=Lh (H1.out.keep hb');have B0:=Lh (H0.out.keep hb');have hp:w'.put? (w.heap.size+1) 0 (((WI.of 0).add (a.mul b)).add (c.mul d)).cells=some (w'.putRow (w.heap.size+1) 0 (((WI.of 0).add (a.mul b)).add (c.mul d)).cells):=B1.out.put? 0 _ (by simp) (by simp);go_wp2
   refine⟨⟨2,by omega,rfl,?_,?_,?_⟩,by simp[intOf]⟩
   ·exact ar (Below.trans HB.out (hb'.mono HB.out.size)) (by omega) _ _
   ·exact(B1.out.aK 0 _).of_eq (by rw[dw _ _ (by simp)];rfl)
   ·exact B0.out.aC (by omega) 0 _
  ·have g1:wr.row? (w.heap.size+1) 0 18=some (cK a b c d).cells:=H1.out.row?_all 18 (by simp);have hp:wr.put? w.heap.size 0 (cK a b c d).cells=some (wr.putRow w.heap.size 0 (cK a b c d).cells):=H0.out.put? 0 _ (by simp) (by simp);have g2:=cP hp (n:=18) (by simp);go_wp2
   exact ak 18 (cK a b c d).cells rfl rfl rfl Tryz.underlying47 rfl aE g2 ⟨rfl,ar HB.out (Nat.le_refl _) _ _⟩
  ·omega
structure Iq where
 A:Int
 B:Int
 D:Int
 U:Int
 V:Int
 Z:Int
 N:Int
def Iq.ws (i:Iq):List WI:=[WI.of i.A,WI.of i.B,WI.of i.D,WI.of i.U,WI.of i.V,WI.of i.Z,WI.of i.N]
def Iq.zero:Iq:=⟨0,0,0,0,0,0,0⟩
abbrev iqV (i:Iq):Value := .agg (blk i.ws)
theorem kR {j:Nat} (a b c d:Int) (ha:Sm j a) (hb:Sm j b) (hc:Sm j c) (hd:Sm j d) (hj:j≤500):cK (WI.of a) (WI.of b) (WI.of c) (WI.of d)=WI.of (a*b+c*d):=by
 unfold cK;have h1:=ha.mul hb;have h2:=hc.mul hd
 rw[WI.au (ha.lim (by omega)) (hb.lim (by omega)),WI.au (hc.lim (by omega)) (hd.lim (by omega)),
  WI.ce (by simpa using dP) (h1.lim (by omega)),Int.zero_add,WI.ce (h1.lim (by omega)) (h2.lim (by omega))]
def ofEl (e:El):Iq:=⟨e.d,-e.b,e.a,e.d*e.x + -e.b*e.y,-e.b*e.x+e.a*e.y,e.d*(e.x*e.x)+e.a*(e.y*e.y)+(-e.b*(e.x*e.y) + -e.b*(e.x*e.y)),e.a*e.d-e.b*e.b⟩
def ofE (e:El):Iq × Int:=if e.may=true then (ofEl e,0) else (Iq.zero,1)
theorem FY (a b d a' b' d':Int) (h:no a b d=ei a' b' d') (w:World) :
  Calls Tryz.prog 141 #[ei a b d] w fun e w'=>e = .returned (ei a' b' d')∧Below w.heap.size w w':=by
 rw[← h];exact Ga a b d w
theorem qT (x y a b d:Int) (he:El.may ⟨x,y,a,b,d⟩=true) (w:World) :
  Calls Tryz.prog 111 #[elC x y a b d] w fun e w'=>e = .returned (.tuple #[iqV (ofEl ⟨x,y,a,b,d⟩),.int .i64 0])∧Below w.heap.size w w':=by
 have m:=(El.aQ _).1 he;simp only at m;obtain⟨⟨m1,m2,m3,m4⟩,⟨m5,m6,m7,m8,m9,m10⟩,-⟩:=m;have HE:=Lh he;obtain⟨b',hb'⟩:∃ b',b' = -b:=⟨_,rfl⟩;have HA:Hid (no a b d=ei d b' a):=by show _=_;unfold no;rw[if_pos (El.uk _ he),hb']
 have K:Hid (I64 x∧I64 y∧I64 a∧I64 b∧I64 d∧I64 b'):=by unfold Hid I64;omega
 have E1:Hid (cK (WI.of d) (WI.of x) (WI.of b') (WI.of y)=WI.of (d*x+b'*y)):=kR (j:=63) _ _ _ _ (Sm.of64 (by omega) (by omega)) (Sm.of64 (by omega) (by omega)) (Sm.of64 (by omega) (by omega)) (Sm.of64 (by omega) (by omega)) (by decide);have E2:Hid (cK (WI.of b') (WI.of x) (WI.of a) (WI.of y)=WI.of (b'*x+a*y)):=kR (j:=63) _ _ _ _ (Sm.of64 (by omega) (by omega)) (Sm.of64 (by omega) (by omega)) (Sm.of64 (by omega) (by omega)) (Sm.of64 (by omega) (by omega)) (by decide)
 have EF:Hid ((ofEl ⟨x,y,a,b,d⟩).ws = [WI.of d,WI.of b',WI.of a,WI.of (d*x+b'*y),WI.of (b'*x+a*y),WI.of (d*(x*x)+a*(y*y)+(b'*(x*y)+b'*(x*y))),WI.of (a*d-b*b)]):=by
  show _=_;rw[hb'];rfl
 clear he hb' m1 m2 m3 m4 m5 m6 m7 m8 m9 m10;go_enter Tryz.func111,Tryz.ntmps111;go_wp2_with fail;refine(bD _ _ _ _ _ _).mono ?_;rintro e w1 ⟨rfl,hb1⟩;rw[HE.out];have z_w1:=hb1.size;(try simp at z_w1);have K_w1_0:=bq2 hb1 (w.heap.size);go_wp2_with fail;refine(FY _ _ _ _ _ _ HA.out _).mono ?_;rintro e w2 ⟨rfl,hb2⟩;have z_w2:=hb2.size;(try simp at z_w2);have K_w2_0:=bq2 hb2 (w.heap.size);go_wp2_with fail;obtain⟨w3,hw3⟩:∃ w3,w3=w2.alloc (Obj.cells #[.int .i64 d,.int .i64 b',.int .i64 a] 25):=⟨_,rfl⟩;rw[← hw3];have hb3:Below w2.heap.size w2 w3:=by rw[hw3];exact ad
 have z_w3:=hb3.size;(try simp at z_w3);have K_w3_0:=bq2 hb3 (w.heap.size);have B4:Hid (Blk w3 w2.heap.size #[.int .i64 d,.int .i64 b',.int .i64 a] 25):=by rw[hw3];exact Blk.new _ _ _
 clear hw3;have c0:=@ci _ _ _ (show w3.cell? ⟨w.heap.size,0,none⟩=some (.int .i64 x) from(by go_simp));have c1:=@ci _ _ _ (show w3.cell? ⟨w.heap.size,1,none⟩=some (.int .i64 y) from(by go_simp));have c2:=@ci _ _ _ (show w3.cell? ⟨w.heap.size,2,none⟩=some (.int .i64 a) from(by go_simp));have c3:=@ci _ _ _ (show w3.cell? ⟨w.heap.size,3,none⟩=some (.int .i64 b) from(by go_simp));have c4:=@ci _ _ _ (show w3.cell? ⟨w.heap.size,4,none⟩=some (.int .i64 d) from(by go_simp));go_cut [5,6] from 7 (fun s5 s6 wc=>∃ g h,s5 = .pointer (some ⟨g,0,none⟩)∧s6 = .pointer (some ⟨h,0,none⟩)∧w3.heap.size≤g∧w3.heap.size≤h∧wc.row? g 0 18=some (WI.of x).cells∧wc.row? h 0 18=some (WI.of y).cells∧Hid (Below w3.heap.size w3 wc))
 case first =>
  refine aB 10 (fun k=>match k with|8=>some ⟨.cells (cellsI false false 0) 47,fun g => .pointer (some ⟨g,0,none⟩)⟩|9=>some ⟨.cells (cellsI false false 0) 47,fun g => .pointer (some ⟨g,0,none⟩)⟩|_=>none) (fun _=>[]) (by kernel_rfl) (by kernel_rfl) ?_;apply Eb;apply Eb;apply Eb;apply Eb;apply Eb;apply Eb;apply Eb;apply Eb;apply Ef;apply Ef;refine⟨[],fun gg NN hN=>?_⟩;simp only[List.take_succ_cons,List.take_zero,List.drop_succ_cons,List.drop_zero];(repeat (first|(refine bi rfl ?_;go_big_quiet_step (first|exact rfl|(exact aF (eg _ (by first|exact K.out.1.1|exact K.out.2.1.1) (by first|exact K.out.1.2|exact K.out.2.1.2) _)));refine wpQuiet_nil ⟨rfl,?_⟩)|(refine bK _ (by rfl) (by rfl) ?hex ?_;(case hex=>(intro wx;first|(go_simp;done)|(go_simp;rfl)));simp only[Act.put,List.setIfInBounds_toArray,List.set_cons_succ,List.set_cons_zero])));refine bF ?_;intro w4 hb4' hh hd;have hb4:Below w3.heap.size w3 w4:=hb4';obtain⟨l8,e8⟩:=hh 8 _ (by decide) rfl;obtain⟨l9,e9⟩:=hh 9 _ (by decide) rfl;have ne:gg 8≠gg 9:=hd 8 9 (by decide) (by decide) rfl rfl (by decide);clear hh hd hb4';have G8:Hid (Blk w4 (gg 8) (cellsI false false 0) 47):=e8;have G9:Hid (Blk w4 (gg 9) (cellsI false false 0) 47):=e9;have hp8:w4.put? (gg 8) 0 (WI.of x).cells=some (w4.putRow (gg 8) 0 (WI.of x).cells):=G8.out.put? 0 _ (by simp) (by simp);have hp9:(w4.putRow (gg 8) 0 (WI.of x).cells).put? (gg 9) 0 (WI.of y).cells=some ((w4.putRow (gg 8) 0 (WI.of x).cells).putRow (gg 9) 0 (WI.of y).cells):=(G9.out.aC (Ne.symm ne) 0 _).put? 0 _ (by simp) (by simp);clear e8 e9;go_wp2_with fail;go_meet;refine⟨gg 8,gg 9,rfl,rfl,l8,l9,?_,?_,?_⟩
  ·rw[((G8.out.aK 0 (WI.of x).cells).aC ne 0 _).row? 0 18 (by simp)];simp
  ·rw[((G9.out.aC (Ne.symm ne) 0 (WI.of x).cells).aK 0 _).row? 0 18 (by simp)];simp
  ·exact ar (ar hb4 l8 _ _) l9 _ _
 case rest =>
  obtain⟨g5,g6,rfl,rfl,l5,l6,r5,r6,HB4⟩:=hcut;have hb4:=HB4.out;have z_wc:=hb4.size;(try simp at z_wc);have K_wc_0_0:=bq hb4 (w.heap.size);have K_wc_0_1:=bq hb4 (w.heap.size+1);have B5:=Lh (B4.out.keep hb4);have e0:=@ci _ _ _ (show wc.cell? ⟨w.heap.size,0,none⟩=some (.int .i64 x) from(by go_simp));have e1:=@ci _ _ _ (show wc.cell? ⟨w.heap.size,1,none⟩=some (.int .i64 y) from(by go_simp));have e2:=@ci _ _ _ (show wc.cell? ⟨w.heap.size,2,none⟩=some (.int .i64 a) from(by go_simp));have e3:=@ci _ _ _ (show wc.cell? ⟨w.heap.size,3,none⟩=some (.int .i64 b) from(by go_simp));have e4:=@ci _ _ _ (show wc.cell? ⟨w.heap.size,4,none⟩=some (.int .i64 d) from(by go_simp));have t0:=@ci _ _ _ (B5.out.cell (i:=0) rfl);have t1:=@ci _ _ _ (B5.out.cell (i:=1) rfl);have t2:=@ci _ _ _ (B5.out.cell (i:=2) rfl);go_wp2_with fail;go_cut [7] from 8 (fun s7 wd=>∃ g7,s7 = .pointer (some ⟨g7,0,none⟩)∧wc.heap.size≤g7∧Hid (Blk wd g7 (blk [WI.of d,WI.of b',WI.of a,WI.of 0,WI.of 0,WI.of (d*(x*x)+a*(y*y)+(b'*(x*y)+b'*(x*y))),WI.of (a*d-b*b)]) 49)∧Hid (Below wc.heap.size wc wd))
  case first =>
   refine aB 18 (fun k=>match k with|17=>some ⟨.cells (blk [WI.of 0,WI.of 0,WI.of 0,WI.of 0,WI.of 0,WI.of 0,WI.of 0]) 49,fun g => .pointer (some ⟨g,0,none⟩)⟩|_=>none) (fun _=>[]) (by kernel_rfl) (by kernel_rfl) ?_;apply Eb;apply Eb;apply Eb;apply Eb;apply Eb;apply Eb;apply Eb;apply Eb;apply Eb;apply Eb;apply Eb;apply Eb;apply Eb;apply Eb;apply Eb;apply Eb;apply Eb;apply Ef;refine⟨[],fun gg NN hN=>?_⟩;simp only[List.take_succ_cons,List.take_zero,List.drop_succ_cons,List.drop_zero];(repeat (first|(refine bi rfl ?_;go_big_quiet_step (first|exact rfl|(first|exact aF (eg _ (by first|exact K.out.2.2.1.1|exact K.out.2.2.2.2.1.1|exact K.out.2.2.2.2.2.1) (by first|exact K.out.2.2.1.2|exact K.out.2.2.2.2.1.2|exact K.out.2.2.2.2.2.2) _)|exact aF (xJ d b' a x y K.out.2.2.2.2.1 K.out.2.2.2.2.2 K.out.2.2.1 K.out.1 K.out.2.1 _)|exact aF (qR a b d K.out.2.2.1 K.out.2.2.2.1 K.out.2.2.2.2.1 _)));refine wpQuiet_nil ⟨rfl,?_⟩)|(refine bK _ (by rfl) (by rfl) ?hex ?_;(case hex=>(intro wx;first|(go_simp;done)|(go_simp;rfl)));simp only[Act.put,List.setIfInBounds_toArray,List.set_cons_succ,List.set_cons_zero])));refine bF ?_;intro w5 hb5' hh _;have hb5:Below wc.heap.size wc w5:=hb5';obtain⟨l17,e17⟩:=hh 17 _ (by decide) rfl;clear hh hb5';have G17:Hid (Blk w5 (gg 17) (blk [WI.of 0,WI.of 0,WI.of 0,WI.of 0,WI.of 0,WI.of 0,WI.of 0]) 49):=e17;obtain⟨L,hL⟩:∃ L,L = [WI.of d,WI.of b',WI.of a,WI.of 0,WI.of 0,WI.of (d*(x*x)+a*(y*y)+(b'*(x*y)+b'*(x*y))),WI.of (a*d-b*b)]:=⟨_,rfl⟩;have hl:L.length=7:=by rw[hL];rfl
   rw[← hL];have HL:=Lh hL;clear hL;have hp:w5.put? (gg 17) 0 (blk L)=some (w5.putRow (gg 17) 0 (blk L)):=G17.out.put? 0 _ (by simp[hl]) (by simp);clear e17;go_wp2_with fail;go_meet;rw[← HL.out];exact⟨gg 17,rfl,l17,(G17.out.aK 0 _).of_eq (dw _ _ (by simp[hl])),ar hb5 l17 _ _⟩
  case rest =>
   obtain⟨g7,rfl,l7,H7,HBD⟩:=hcut;have hbd:=HBD.out;have z_wd:=hbd.size;(try simp at z_wd);have K_wd_0_0:=bq hbd (w.heap.size);have K_wd_0_1:=bq hbd (w.heap.size+1);have s5:=@aA _ _ _ _ _ ((Below.row? hbd g5 0 18 (aL r5)).trans r5);have s6:=@aA _ _ _ _ _ ((Below.row? hbd g6 0 18 (aL r6)).trans r6);have q0:=@aA _ _ _ _ _ ((H7.out.row? 0 18 (by simp)).trans (congrArg some (gK _ _)));have q1:=@aA _ _ _ _ _ ((H7.out.row? 18 18 (by simp)).trans (congrArg some (gJ _ _ _)));have q2:=@aA _ _ _ _ _ ((H7.out.row? 36 18 (by simp)).trans (congrArg some (iK _ _ _ _)));go_wp2_with fail;refine aB 17 (fun k=>match k with|6=>some ⟨.cells (blk [WI.of d,WI.of x,WI.of b',WI.of y]) 47,fun g => .slice (some ⟨g,0,none⟩) 4 4⟩|14=>some ⟨.cells (blk [WI.of b',WI.of x,WI.of a,WI.of y]) 47,fun g => .slice (some ⟨g,0,none⟩) 4 4⟩|_=>none) (fun k=>match k with|7=>[6]|15=>[14]|_=>[]) (by kernel_rfl) (by kernel_rfl) ?_;apply Eb;apply Eb;apply Eb;apply Eb;apply Eb;apply Eb;apply Ef;apply Eb;apply Eb;apply Eb;apply Eb;apply Eb;apply Eb;apply Eb;apply Ef;apply Eb;apply Eb;refine⟨[],fun gg NN hN=>?_⟩;simp only[List.take_succ_cons,List.take_zero,List.drop_succ_cons,List.drop_zero];(repeat (first|(refine bi rfl ?_;go_big_quiet_step (first|exact rfl|(rename_i px;first|exact aF (oO _ _ _ _ _ _ (px.has 6 (hN 7 6 (by simp)) _ rfl).2)|exact aF (oO _ _ _ _ _ _ (px.has 14 (hN 15 14 (by simp)) _ rfl).2)));refine wpQuiet_nil ⟨rfl,?_⟩)|(refine bK _ (by rfl) (by rfl) ?hex ?_;(case hex=>(intro wx;first|(go_simp;done)|(go_simp;rfl)));simp only[Act.put,List.setIfInBounds_toArray,List.set_cons_succ,List.set_cons_zero])));refine bF ?_;intro w6 hb6' hh hd;clear hh hd;have hb6:Below wc.heap.size wc w6:=hb6';clear hb6';have z_w6:=hb6.size;(try simp at z_w6);have K_w6_0:=bq2 hb6 (w.heap.size);have F6:w6.fits (w.heap.size+1) 126=true:=by go_simp
   have B7:=Lh (H7.out.keep hb6);have n7:w.heap.size+1≠g7:=by omega
   have hpU:=B7.out.put? 54 (cK (WI.of d) (WI.of x) (WI.of b') (WI.of y)).cells (by simp) (by simp);have B8:=Lh ((B7.out.aK 54 (cK (WI.of d) (WI.of x) (WI.of b') (WI.of y)).cells).of_eq (Em _ _ _ _ _ _));have hpV:=B8.out.put? 72 (cK (WI.of b') (WI.of x) (WI.of a) (WI.of y)).cells (by simp) (by simp);have B9:=Lh ((B8.out.aK 72 (cK (WI.of b') (WI.of x) (WI.of a) (WI.of y)).cells).of_eq (Ek _ _ _ _ _ _ _));have r9:=B9.out.row?_all 126 (by simp)
   have F9:((w6.putRow g7 54 (cK (WI.of d) (WI.of x) (WI.of b') (WI.of y)).cells).putRow g7 72 (cK (WI.of b') (WI.of x) (WI.of a) (WI.of y)).cells).fits (w.heap.size+1) 126=true:=by
    rw[gz _ _ _ _ _ n7,gz _ _ _ _ _ n7];exact F6
   have hpR:=put?_fits (o:=0) (cs:=blk [WI.of d,WI.of b',WI.of a,cK (WI.of d) (WI.of x) (WI.of b') (WI.of y),cK (WI.of b') (WI.of x) (WI.of a) (WI.of y),WI.of (d*(x*x)+a*(y*y)+(b'*(x*y)+b'*(x*y))),WI.of (a*d-b*b)]) (by simpa using F9) (by simp);have rR:=cP hpR (n:=126) (by simp);clear c0 c1 c2 c3 c4 e0 e1 e2 e3 e4 t0 t1 t2 s5 s6 q0 q1 q2;go_wp2_with fail;exact az 126 _ (.int .i64 0) rfl rfl rfl rfl Tryz.underlying49 rfl dZ rR ⟨by rw[iqV,EF.out,E1.out,E2.out],ad⟩
theorem yu (e:El) (w:World) :
  Calls Tryz.prog 111 #[elV e] w fun r w'=>r = .returned (.tuple #[iqV (ofE e).1,.int .i64 (ofE e).2])∧Below w.heap.size w w':=by
 obtain⟨x,y,a,b,d⟩:=e;cases he:El.may ⟨x,y,a,b,d⟩ with
 | true =>
  have:ofE ⟨x,y,a,b,d⟩=(ofEl ⟨x,y,a,b,d⟩,0):=by unfold ofE;rw[if_pos he]
  rw[this];exact qT x y a b d he w
 | false =>
  have HE:=Lh he;have E:Hid (ofE ⟨x,y,a,b,d⟩=(Iq.zero,1)):=by show _=_;unfold ofE;rw[if_neg (by rw[he];decide)]
  clear he;show Calls Tryz.prog 111 #[elC x y a b d] w _;go_enter Tryz.func111,Tryz.ntmps111;go_wp2_with fail;refine(bD _ _ _ _ _ _).mono ?_;rintro e w1 ⟨rfl,hb1⟩;rw[HE.out];have z_w1:=hb1.size;(try simp at z_w1);have Kw1aa:=bq hb1 (w.heap.size);have Kw1ab:=bq hb1 (w.heap.size+1);have F1:w1.fits (w.heap.size+1) 126=true:=by go_simp
  have hpR:=put?_fits (o:=0) (cs:=blk [WI.of 0,WI.of 0,WI.of 0,WI.of 0,WI.of 0,WI.of 0,WI.of 0]) (by simpa using F1) (by simp);have rR:=cP hpR (n:=126) (by simp);go_wp2_with fail;exact az 126 _ (.int .i64 1) rfl rfl rfl rfl Tryz.underlying49 rfl dZ rR ⟨by rw[E.out];rfl,ad⟩
structure St where
 ox:Int
 oy:Int
 hx:Int
 hy:Int
 lo:Int
 hi:Int
abbrev stV (s:St):Value:=stC s.ox s.oy s.hx s.hy s.lo s.hi
def St.may (s:St):Bool:=mayPt s.ox s.oy&&(withinB s.hx s.hy 16777216&&(!(decide (s.hx=0)&&decide (s.hy=0))&&(decide (-1125899906842624≤s.lo)&&(decide (s.lo<s.hi)&&decide (s.hi≤1125899906842624)))))
theorem jT (x y m:Int):withinB x y m=true ↔ -m≤x∧x≤m ∧ -m≤y∧y≤m:=by unfold withinB;simp
theorem St.aQ (s:St):s.may=true↔(-4194304≤s.ox∧s.ox≤4194304 ∧ -4194304≤s.oy∧s.oy≤4194304)∧(-16777216≤s.hx∧s.hx≤16777216 ∧ -16777216≤s.hy∧s.hy≤16777216)∧¬ (s.hx=0∧s.hy=0) ∧ -1125899906842624≤s.lo∧s.lo<s.hi∧s.hi≤1125899906842624:=by
 unfold St.may;simp only[Bool.and_eq_true,ic,jT,decide_eq_true_eq,Bool.not_eq_true',Bool.and_eq_false_iff,decide_eq_false_iff_not];constructor
 ·rintro⟨a,b,c,d⟩;exact⟨a,b,by omega,by omega⟩
 ·rintro⟨a,b,c,d⟩;exact⟨a,b,by omega,by omega⟩
theorem dC (x y m:Int) (hm:0≤m∧m≤9223372036854775807) (w:World) :
  Calls Tryz.prog 133 #[ptV x y,.int .i64 m] w fun e w'=>e = .returned (.bool (withinB x y m))∧Below w.heap.size w w':=by
 have W1:IntKind.i64.wrap (-m) = -m:=by rw[IntKind.wrap_i64];omega
 have E:withinB x y m=(decide (-m≤x)&&(decide (x≤m)&&(decide (-m≤y)&&decide (y≤m)))):=by unfold withinB;simp
 by_cases h1 : -m≤x
 ·by_cases h2:x≤m
  ·by_cases h3 : -m≤y
   ·have EV:Hid (withinB x y m=decide (y≤m)):=by show _=_;rw[E];simp[h1,h2,h3]
    clear E;go_enter Tryz.func133,Tryz.ntmps133;go_wp2
    go_ret;exact⟨by rw[EV.out];rfl,ad⟩
   ·have EV:Hid (withinB x y m=false):=by show _=_;rw[E];simp[h1,h2,h3]
    clear E;go_enter Tryz.func133,Tryz.ntmps133;go_wp2
    go_ret;exact⟨by rw[EV.out];rfl,ad⟩
  ·have EV:Hid (withinB x y m=false):=by show _=_;rw[E];simp[h1,h2]
   clear E;go_enter Tryz.func133,Tryz.ntmps133;go_wp2
   go_ret;exact⟨by rw[EV.out];rfl,ad⟩
 ·have EV:Hid (withinB x y m=false):=by show _=_;rw[E];simp[h1]
  clear E;go_enter Tryz.func133,Tryz.ntmps133;go_wp2
  go_ret;exact⟨by rw[EV.out];rfl,ad⟩
theorem strip_cases (m n:Bool) (a b lo hi:Int):(m=false)∨(m=true∧n=false)∨(m=true∧n=true∧(a=0∧b=0))∨(m=true∧n=true∧¬ (a=0∧b=0)∧¬ -1125899906842624≤lo)∨(m=true∧n=true∧¬ (a=0∧b=0) ∧ -1125899906842624≤lo∧¬ lo<hi) ∨
  (m=true∧n=true∧¬ (a=0∧b=0) ∧ -1125899906842624≤lo∧lo<hi):=by
 cases m <;> cases n <;> simp <;> omega
theorem sH (a b c d lo hi:Int) (w:World) :
  Calls Tryz.prog 89 #[stC a b c d lo hi] w fun e w'=>e = .returned (.bool (St.may ⟨a,b,c,d,lo,hi⟩))∧Below w.heap.size w w':=by
 obtain⟨m,hm⟩:∃ m,m=mayPt a b:=⟨_,rfl⟩;obtain⟨n,hn⟩:∃ m,m=withinB c d 16777216:=⟨_,rfl⟩;have E:St.may ⟨a,b,c,d,lo,hi⟩=(m&&(n&&(!(decide (c=0)&&decide (d=0))&&(decide (-1125899906842624≤lo)&&(decide (lo<hi)&&decide (hi≤1125899906842624)))))):=by rw[hm,hn];rfl
 have HM:=Lh hm.symm;have HN:=Lh hn.symm;clear hm hn;rcases strip_cases m n c d lo hi with h0|⟨h0,h1⟩|⟨h0,h1,h2,h3⟩|⟨h0,h1,h2,h3⟩|⟨h0,h1,h2,h3,h4⟩|⟨h0,h1,h2,h3,h4⟩
 case inl =>
  subst h0;have EV:Hid (St.may ⟨a,b,c,d,lo,hi⟩=false):=by show _=_;rw[E];rfl
  clear E;go_enter Tryz.func89,Tryz.ntmps89;go_wp2_with fail;refine(cQ _ _ _).mono ?_;rintro e w1 ⟨rfl,hb1⟩;rw[HM.out];have z_w1:=hb1.size;(try simp at z_w1);have Kw1aa:=bq hb1 (w.heap.size);go_wp2
  go_ret;exact⟨by rw[EV.out];rfl,ad⟩
 case inr.inl =>
  subst h0;subst h1;have EV:Hid (St.may ⟨a,b,c,d,lo,hi⟩=false):=by show _=_;rw[E];rfl
  clear E;go_enter Tryz.func89,Tryz.ntmps89;go_wp2_with fail;refine(cQ _ _ _).mono ?_;rintro e w1 ⟨rfl,hb1⟩;rw[HM.out];have z_w1:=hb1.size;(try simp at z_w1);have Kw1aa:=bq hb1 (w.heap.size);go_wp2_with fail;refine(dC _ _ _ (by decide) _).mono ?_;rintro e w2 ⟨rfl,hb2⟩;rw[HN.out];have z_w2:=hb2.size;(try simp at z_w2);have Kw2aa:=bq hb2 (w.heap.size);go_wp2
  go_ret;exact⟨by rw[EV.out];rfl,ad⟩
 case inr.inr.inl =>
  subst h0;subst h1;subst h2;subst h3;have EV:Hid (St.may ⟨a,b,0,0,lo,hi⟩=false):=by show _=_;rw[E];rfl
  clear E;go_enter Tryz.func89,Tryz.ntmps89;go_wp2_with fail;refine(cQ _ _ _).mono ?_;rintro e w1 ⟨rfl,hb1⟩;rw[HM.out];have z_w1:=hb1.size;(try simp at z_w1);have Kw1aa:=bq hb1 (w.heap.size);go_wp2_with fail;refine(dC _ _ _ (by decide) _).mono ?_;rintro e w2 ⟨rfl,hb2⟩;rw[HN.out];have z_w2:=hb2.size;(try simp at z_w2);have Kw2aa:=bq hb2 (w.heap.size);go_wp2
  go_ret;exact⟨by rw[EV.out];rfl,ad⟩
 case inr.inr.inr.inl =>
  subst h0;subst h1
  have EV:Hid (St.may ⟨a,b,c,d,lo,hi⟩=false):=by
   have n1:(decide (c=0)&&decide (d=0))=false:=by rw[Bool.and_eq_false_iff,decide_eq_false_iff_not,decide_eq_false_iff_not];omega
   show _=_;rw[E,n1,decide_eq_false h3];simp
  have n3:c=0→¬ d=0:=fun h h'=>h2 ⟨h,h'⟩;clear E;rcases Decidable.em (c=0) with hc|hc
  ·subst hc;have hd:¬ d=0:=n3 rfl;clear n3 h2;go_enter Tryz.func89,Tryz.ntmps89;go_wp2_with fail;refine(cQ _ _ _).mono ?_;rintro e w1 ⟨rfl,hb1⟩;rw[HM.out];have z_w1:=hb1.size;(try simp at z_w1);have Kw1aa:=bq hb1 (w.heap.size);go_wp2_with fail;refine(dC _ _ _ (by decide) _).mono ?_;rintro e w2 ⟨rfl,hb2⟩;rw[HN.out];have z_w2:=hb2.size;(try simp at z_w2);have Kw2aa:=bq hb2 (w.heap.size);go_wp2_with fail;go_ret;exact⟨by rw[EV.out];rfl,ad⟩
  ·clear n3 h2;go_enter Tryz.func89,Tryz.ntmps89;go_wp2_with fail;refine(cQ _ _ _).mono ?_;rintro e w1 ⟨rfl,hb1⟩;rw[HM.out];have z_w1:=hb1.size;(try simp at z_w1);have Kw1aa:=bq hb1 (w.heap.size);go_wp2_with fail;refine(dC _ _ _ (by decide) _).mono ?_;rintro e w2 ⟨rfl,hb2⟩;rw[HN.out];have z_w2:=hb2.size;(try simp at z_w2);have Kw2aa:=bq hb2 (w.heap.size);go_wp2_with fail;go_ret;exact⟨by rw[EV.out];rfl,ad⟩
 case inr.inr.inr.inr.inl =>
  subst h0;subst h1
  have EV:Hid (St.may ⟨a,b,c,d,lo,hi⟩=false):=by
   have n1:(decide (c=0)&&decide (d=0))=false:=by rw[Bool.and_eq_false_iff,decide_eq_false_iff_not,decide_eq_false_iff_not];omega
   show _=_;rw[E,n1,decide_eq_true h3,decide_eq_false h4];simp
  have n3:c=0→¬ d=0:=fun h h'=>h2 ⟨h,h'⟩;clear E;rcases Decidable.em (c=0) with hc|hc
  ·subst hc;have hd:¬ d=0:=n3 rfl;clear n3 h2;go_enter Tryz.func89,Tryz.ntmps89;go_wp2_with fail;refine(cQ _ _ _).mono ?_;rintro e w1 ⟨rfl,hb1⟩;rw[HM.out];have z_w1:=hb1.size;(try simp at z_w1);have Kw1aa:=bq hb1 (w.heap.size);go_wp2_with fail;refine(dC _ _ _ (by decide) _).mono ?_;rintro e w2 ⟨rfl,hb2⟩;rw[HN.out];have z_w2:=hb2.size;(try simp at z_w2);have Kw2aa:=bq hb2 (w.heap.size);go_wp2_with fail;go_ret;exact⟨by rw[EV.out];rfl,ad⟩
  ·clear n3 h2;go_enter Tryz.func89,Tryz.ntmps89;go_wp2_with fail;refine(cQ _ _ _).mono ?_;rintro e w1 ⟨rfl,hb1⟩;rw[HM.out];have z_w1:=hb1.size;(try simp at z_w1);have Kw1aa:=bq hb1 (w.heap.size);go_wp2_with fail;refine(dC _ _ _ (by decide) _).mono ?_;rintro e w2 ⟨rfl,hb2⟩;rw[HN.out];have z_w2:=hb2.size;(try simp at z_w2);have Kw2aa:=bq hb2 (w.heap.size);go_wp2_with fail;go_ret;exact⟨by rw[EV.out];rfl,ad⟩
 case inr.inr.inr.inr.inr =>
  subst h0;subst h1
  have EV:Hid (St.may ⟨a,b,c,d,lo,hi⟩=decide (hi≤1125899906842624)):=by
   have n1:(decide (c=0)&&decide (d=0))=false:=by rw[Bool.and_eq_false_iff,decide_eq_false_iff_not,decide_eq_false_iff_not];omega
   show _=_;rw[E,n1,decide_eq_true h3,decide_eq_true h4];simp
  have n3:c=0→¬ d=0:=fun h h'=>h2 ⟨h,h'⟩;clear E;rcases Decidable.em (c=0) with hc|hc
  ·subst hc;have hd:¬ d=0:=n3 rfl;clear n3 h2;go_enter Tryz.func89,Tryz.ntmps89;go_wp2_with fail;refine(cQ _ _ _).mono ?_;rintro e w1 ⟨rfl,hb1⟩;rw[HM.out];have z_w1:=hb1.size;(try simp at z_w1);have Kw1aa:=bq hb1 (w.heap.size);go_wp2_with fail;refine(dC _ _ _ (by decide) _).mono ?_;rintro e w2 ⟨rfl,hb2⟩;rw[HN.out];have z_w2:=hb2.size;(try simp at z_w2);have Kw2aa:=bq hb2 (w.heap.size);go_wp2_with fail;go_ret;exact⟨by rw[EV.out];rfl,ad⟩
  ·clear n3 h2;go_enter Tryz.func89,Tryz.ntmps89;go_wp2_with fail;refine(cQ _ _ _).mono ?_;rintro e w1 ⟨rfl,hb1⟩;rw[HM.out];have z_w1:=hb1.size;(try simp at z_w1);have Kw1aa:=bq hb1 (w.heap.size);go_wp2_with fail;refine(dC _ _ _ (by decide) _).mono ?_;rintro e w2 ⟨rfl,hb2⟩;rw[HN.out];have z_w2:=hb2.size;(try simp at z_w2);have Kw2aa:=bq hb2 (w.heap.size);go_wp2_with fail;go_ret;exact⟨by rw[EV.out];rfl,ad⟩
theorem fK (a b c d lo hi:Int) (m:Bool) (h:St.may ⟨a,b,c,d,lo,hi⟩=m) (w:World) :
  Calls Tryz.prog 89 #[stC a b c d lo hi] w fun e w'=>e = .returned (.bool m)∧Below w.heap.size w w':=by
 subst h;exact sH a b c d lo hi w
def St.m (s:St):Int:=s.lo+s.hi+2*s.hx*s.ox+2*s.hy*s.oy
def iZ (s:St):Iq:=⟨2*s.hx*(2*s.hx),2*s.hx*(2*s.hy),2*s.hy*(2*s.hy),s.m*(2*s.hx),s.m*(2*s.hy),s.m*s.m,(s.hi-s.lo)*(s.hi-s.lo)⟩
def ofSt (s:St):Iq × Int:=if s.may=true then (iZ s,0) else (Iq.zero,1)
theorem ib (a b m n:Int) (h1 : -m≤a) (h2:a≤m) (h3 : -n≤b) (h4:b≤n) : -(m*n)≤a*b∧a*b≤m*n:=by
 have e1:0≤(m-a)*(n-b):=Int.mul_nonneg (by omega) (by omega);have e2:0≤(m+a)*(n+b):=Int.mul_nonneg (by omega) (by omega);have e3:0≤(m-a)*(n+b):=Int.mul_nonneg (by omega) (by omega);have e4:0≤(m+a)*(n-b):=Int.mul_nonneg (by omega) (by omega);have f1:(m-a)*(n-b)=m*n-m*b-a*n+a*b:=by grind
 have f2:(m+a)*(n+b)=m*n+m*b+a*n+a*b:=by grind
 have f3:(m-a)*(n+b)=m*n+m*b-a*n-a*b:=by grind
 have f4:(m+a)*(n-b)=m*n-m*b+a*n-a*b:=by grind
 omega
theorem sD {a b:Int} (ha:Sm 63 a) (hb:Sm 63 b):(WI.of a).mul (WI.of b)=WI.of (a*b):=WI.au (ha.lim (by decide)) (hb.lim (by decide))
theorem pv (a b c d lo hi:Int) (hs:St.may ⟨a,b,c,d,lo,hi⟩=true) (w:World) :
  Calls Tryz.prog 134 #[stC a b c d lo hi] w fun e w'=>e = .returned (.tuple #[iqV (iZ ⟨a,b,c,d,lo,hi⟩),.int .i64 0])∧Below w.heap.size w w':=by
 have m:=(St.aQ _).1 hs;simp only at m;obtain⟨⟨m1,m2,m3,m4⟩,⟨m5,m6,m7,m8⟩,-,m9,m10,m11⟩:=m;have HS:=Lh hs;obtain⟨X,hX⟩:∃ X,2*c=X:=⟨_,rfl⟩;obtain⟨Y,hY⟩:∃ X,2*d=X:=⟨_,rfl⟩;have x1 : -33554432≤X∧X≤33554432:=by omega
 have y1 : -33554432≤Y∧Y≤33554432:=by omega
 obtain⟨p1,p2⟩:=ib X a 33554432 4194304 x1.1 x1.2 m1 m2;obtain⟨p3,p4⟩:=ib Y b 33554432 4194304 y1.1 y1.2 m3 m4;obtain⟨P,hP⟩:∃ P,X*a=P:=⟨_,rfl⟩;obtain⟨Q,hQ⟩:∃ P,Y*b=P:=⟨_,rfl⟩;rw[hP] at p1 p2;rw[hQ] at p3 p4;have p1' : -140737488355328≤P:=by omega
 have p2':P≤140737488355328:=by omega
 have p3' : -140737488355328≤Q:=by omega
 have p4':Q≤140737488355328:=by omega
 obtain⟨S1,hS1⟩:∃ S,lo+hi=S:=⟨_,rfl⟩;obtain⟨S2,hS2⟩:∃ S,S1+P=S:=⟨_,rfl⟩;obtain⟨M,hM⟩:∃ S,S2+Q=S:=⟨_,rfl⟩;obtain⟨N,hN0⟩:∃ S,hi-lo=S:=⟨_,rfl⟩;have s1 : -2251799813685248≤S1∧S1≤2251799813685248:=by omega
 have s2 : -3000000000000000≤S2∧S2≤3000000000000000:=by omega
 have s3 : -4000000000000000≤M∧M≤4000000000000000:=by omega
 have s4:0≤N∧N≤2251799813685248:=by omega
 have K:Hid (I64 X∧I64 Y∧I64 M∧I64 N):=by unfold Hid I64;omega
 have EF:Hid ((iZ ⟨a,b,c,d,lo,hi⟩).ws = [(WI.of X).mul (WI.of X),(WI.of X).mul (WI.of Y),(WI.of Y).mul (WI.of Y),(WI.of M).mul (WI.of X),(WI.of M).mul (WI.of Y),(WI.of M).mul (WI.of M),(WI.of N).mul (WI.of N)]):=by
  have kX:=Sm.of64 K.out.1.1 K.out.1.2;have kY:=Sm.of64 K.out.2.1.1 K.out.2.1.2;have kM:=Sm.of64 K.out.2.2.1.1 K.out.2.2.1.2;have kN:=Sm.of64 K.out.2.2.2.1 K.out.2.2.2.2;show _=_;rw[sD kX kX,sD kX kY,sD kY kY,sD kM kX,sD kM kY,sD kM kM,sD kN kN];have em:St.m ⟨a,b,c,d,lo,hi⟩=M:=by unfold St.m;simp only;rw[hX,hY,hP,hQ,← hM,← hS2,← hS1]
  unfold iZ Iq.ws;rw[em];simp only[hX,hY,hN0]
 obtain⟨s11,s12⟩:=s1;obtain⟨s21,s22⟩:=s2;obtain⟨s31,s32⟩:=s3;obtain⟨s41,s42⟩:=s4;obtain⟨x11,x12⟩:=x1;obtain⟨y11,y12⟩:=y1;clear hs p1 p2 p3 p4;go_enter Tryz.func134,Tryz.ntmps134;go_wp2_with fail;refine(fK _ _ _ _ _ _ _ HS.out _).mono ?_;rintro e w1 ⟨rfl,hb1⟩;have z_w1:=hb1.size;(try simp at z_w1);have Kw1aa:=bq hb1 (w.heap.size);have Kw1ab:=bq hb1 (w.heap.size+1);go_wp2_with fail;obtain⟨w3,hw3⟩:∃ w3,w3=w1.alloc (Obj.cells #[.int .i64 X,.int .i64 Y] 23):=⟨_,rfl⟩;rw[← hw3];have hb3:Below w1.heap.size w1 w3:=by rw[hw3];exact ad
 have z_w3:=hb3.size;(try simp at z_w3);have Kw3aa:=bq hb3 (w.heap.size);have Kw3ab:=bq hb3 (w.heap.size+1);have B4:Hid (Blk w3 w1.heap.size #[.int .i64 X,.int .i64 Y] 23):=by rw[hw3];exact Blk.new _ _ _
 clear hw3;go_cut [5,6] from 7 (fun s5 s6 wc=>∃ g h,s5 = .pointer (some ⟨g,0,none⟩)∧s6 = .pointer (some ⟨h,0,none⟩)∧w3.heap.size≤g∧w3.heap.size≤h∧Hid (wc.row? g 0 18=some (WI.of X).cells)∧Hid (wc.row? h 0 18=some (WI.of Y).cells)∧Hid (Below w3.heap.size w3 wc))
 case first =>
  have t0:=@ci _ _ _ (B4.out.cell (i:=0) rfl);have t1:=@ci _ _ _ (B4.out.cell (i:=1) rfl);refine aB 8 (fun k=>match k with|6=>some ⟨.cells (cellsI false false 0) 47,fun g => .pointer (some ⟨g,0,none⟩)⟩|7=>some ⟨.cells (cellsI false false 0) 47,fun g => .pointer (some ⟨g,0,none⟩)⟩|_=>none) (fun _=>[]) (by kernel_rfl) (by kernel_rfl) ?_;apply Eb;apply Eb;apply Eb;apply Eb;apply Eb;apply Eb;apply Ef;apply Ef;refine⟨[],fun gg NN hN=>?_⟩;simp only[List.take_succ_cons,List.take_zero,List.drop_succ_cons,List.drop_zero];(repeat (first|(refine bi rfl ?_;go_big_quiet_step (first|exact rfl|(exact aF (eg _ (by first|exact K.out.1.1|exact K.out.2.1.1) (by first|exact K.out.1.2|exact K.out.2.1.2) _)));refine wpQuiet_nil ⟨rfl,?_⟩)|(refine bK _ (by rfl) (by rfl) ?hex ?_;(case hex=>(intro wx;first|(go_simp;done)|(go_simp;rfl)));simp only[Act.put,List.setIfInBounds_toArray,List.set_cons_succ,List.set_cons_zero])));refine bF ?_;intro w4 hb4' hh hd;have hb4:Below w3.heap.size w3 w4:=hb4';obtain⟨l8,e8⟩:=hh 6 _ (by decide) rfl;obtain⟨l9,e9⟩:=hh 7 _ (by decide) rfl;have ne:gg 6≠gg 7:=hd 6 7 (by decide) (by decide) rfl rfl (by decide);clear hh hd hb4';have G8:Hid (Blk w4 (gg 6) (cellsI false false 0) 47):=e8;have G9:Hid (Blk w4 (gg 7) (cellsI false false 0) 47):=e9;have hp8:w4.put? (gg 6) 0 (WI.of X).cells=some (w4.putRow (gg 6) 0 (WI.of X).cells):=G8.out.put? 0 _ (by simp) (by simp);have hp9:(w4.putRow (gg 6) 0 (WI.of X).cells).put? (gg 7) 0 (WI.of Y).cells=some ((w4.putRow (gg 6) 0 (WI.of X).cells).putRow (gg 7) 0 (WI.of Y).cells):=(G9.out.aC (Ne.symm ne) 0 _).put? 0 _ (by simp) (by simp);clear e8 e9;go_wp2_with fail;go_meet;refine⟨gg 6,gg 7,rfl,rfl,l8,l9,?_,?_,?_⟩
  ·show _=_;rw[((G8.out.aK 0 (WI.of X).cells).aC ne 0 _).row? 0 18 (by simp)];simp
  ·show _=_;rw[((G9.out.aC (Ne.symm ne) 0 (WI.of X).cells).aK 0 _).row? 0 18 (by simp)];simp
  ·exact ar (ar hb4 l8 _ _) l9 _ _
 case rest =>
  obtain⟨g5,g6,rfl,rfl,l5,l6,r5,r6,HB4⟩:=hcut;have hb4:=HB4.out;have z_wc:=hb4.size;(try simp at z_wc);have K_wc_0_0:=bq hb4 (w.heap.size);have K_wc_0_1:=bq hb4 (w.heap.size+1);have B5:=Lh (B4.out.keep hb4);have u0:=B5.out.cell (i:=0) rfl;have u1:=B5.out.cell (i:=1) rfl;have z4:=hb4.size;have z3:=hb3.size;have y4:w1.heap.size<wc.heap.size:=B5.out.lt;go_wp2_with fail;refine(eg M K.out.2.2.1.1 K.out.2.2.1.2 _).mono ?_;rintro e w5 ⟨rfl,hb5⟩;have z_w5:=hb5.size;(try simp at z_w5);have K_w5_0:=bq2 hb5 (w.heap.size);go_wp2_with fail;refine(eg N K.out.2.2.2.1 K.out.2.2.2.2 _).mono ?_;rintro e w6 ⟨rfl,hb6⟩;have z_w6:=hb6.size;(try simp at z_w6);have Kw6aa:=bq hb6 (w.heap.size);have Kw6ab:=bq hb6 (w.heap.size+1);go_wp2_with fail;obtain⟨w7,hw7⟩:∃ w7,w7=w6.alloc (Obj.cells (WI.of N).cells 47):=⟨_,rfl⟩;rw[← hw7];have hbM:=Lh ((((Blk.new w5 (WI.of M).cells 47).keep hb6).alloc (Obj.cells (WI.of N).cells 47)).row?_all 18 (by simp));have hbN:=Lh ((Blk.new w6 (WI.of N).cells 47).row?_all 18 (by simp));rw[← hw7] at hbM hbN;have hb7:Below wc.heap.size wc w7:=by rw[hw7];exact ad
  clear hw7;have z_w7:=hb7.size;(try simp at z_w7);have K_w7_0:=bq2 hb7 (w.heap.size);have F7:w7.fits (w.heap.size+1) 126=true:=by go_simp
  have q0:=@aA _ _ _ _ _ ((Below.row? hb7 g5 0 18 (aL r5.out)).trans r5.out);have q1:=@aA _ _ _ _ _ ((Below.row? hb7 g6 0 18 (aL r6.out)).trans r6.out);have q2:=@aA _ _ _ _ _ hbM.out;have q3:=@aA _ _ _ _ _ hbN.out;refine aB 22 (fun _=>none) (fun _=>[]) (by kernel_rfl) (by kernel_rfl) ?_;apply Eb;apply Eb;apply Eb;apply Eb;apply Eb;apply Eb;apply Eb;apply Eb;apply Eb;apply Eb;apply Eb;apply Eb;apply Eb;apply Eb;apply Eb;apply Eb;apply Eb;apply Eb;apply Eb;apply Eb;apply Eb;apply Eb;refine⟨[],fun gg NN hN=>?_⟩;simp only[List.take_succ_cons,List.take_zero,List.drop_succ_cons,List.drop_zero];(repeat (refine bi rfl ?_;go_big_quiet_step (first|exact rfl|(exact aF (cN _ _ _)));refine wpQuiet_nil ⟨rfl,?_⟩));refine bF ?_;intro w8 hb8' _ _;have hb8:Below w7.heap.size w7 w8:=hb8';clear hb8' q0 q1 q2 q3;have z_w8:=hb8.size;(try simp at z_w8);have K_w8_0:=bq2 hb8 (w.heap.size);have F8:w8.fits (w.heap.size+1) 126=true:=by go_simp
  have hpR:=put?_fits (o:=0) (cs:=blk [(WI.of X).mul (WI.of X),(WI.of X).mul (WI.of Y),(WI.of Y).mul (WI.of Y),(WI.of M).mul (WI.of X),(WI.of M).mul (WI.of Y),(WI.of M).mul (WI.of M),(WI.of N).mul (WI.of N)]) (by simpa using F8) (by simp);have rR:=cP hpR (n:=126) (by simp);go_wp2_with fail;exact az 126 _ (.int .i64 0) rfl rfl rfl rfl Tryz.underlying49 rfl dZ rR ⟨by rw[iqV,EF.out],ad⟩
theorem vI (s:St) (w:World) :
  Calls Tryz.prog 134 #[stV s] w fun r w'=>r = .returned (.tuple #[iqV (ofSt s).1,.int .i64 (ofSt s).2])∧Below w.heap.size w w':=by
 obtain⟨a,b,c,d,lo,hi⟩:=s;cases he:St.may ⟨a,b,c,d,lo,hi⟩ with
 | true =>
  have:ofSt ⟨a,b,c,d,lo,hi⟩=(iZ ⟨a,b,c,d,lo,hi⟩,0):=by unfold ofSt;rw[if_pos he]
  rw[this];exact pv a b c d lo hi he w
 | false =>
  have HE:=Lh he;have E:Hid (ofSt ⟨a,b,c,d,lo,hi⟩=(Iq.zero,1)):=by show _=_;unfold ofSt;rw[if_neg (by rw[he];decide)]
  clear he;show Calls Tryz.prog 134 #[stC a b c d lo hi] w _;go_enter Tryz.func134,Tryz.ntmps134;go_wp2_with fail;refine(fK _ _ _ _ _ _ _ HE.out _).mono ?_;rintro e w1 ⟨rfl,hb1⟩;have z_w1:=hb1.size;(try simp at z_w1);have Kw1aa:=bq hb1 (w.heap.size);have Kw1ab:=bq hb1 (w.heap.size+1);have F1:w1.fits (w.heap.size+1) 126=true:=by go_simp
  have hpR:=put?_fits (o:=0) (cs:=blk [WI.of 0,WI.of 0,WI.of 0,WI.of 0,WI.of 0,WI.of 0,WI.of 0]) (by simpa using F1) (by simp);have rR:=cP hpR (n:=126) (by simp);go_wp2_with fail;exact az 126 _ (.int .i64 1) rfl rfl rfl rfl Tryz.underlying49 rfl dZ rR ⟨by rw[E.out];rfl,ad⟩
end Go.Proofs.YtnoidlacjiafdaaGreat
