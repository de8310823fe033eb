/- Walks. -/
import Derived.Test.YtechbdnhalmobaaGreatDoorBE
import Derived.Deep.Cut
open Go.Proofs.Tryz
set_option maxRecDepth 100000
set_option maxHeartbeats 16000000
namespace Go.Proofs.YtechbdnhalmobaaGreatDoor
set_option linter.unusedSimpArgs false
set_option linter.unusedVariables false
open Go.RowKit
def blk(l:List WI):Array Value:=(l.flatMap (·.cells.toList)).toArray
theorem WI.dG(x:WI):x.cells.toList.length=18:=by rw [x.dc];simp
@[simp] theorem js(l : List WI):(blk l).size=18 * l.length:=by
  unfold blk;induction l with
  | nil=>rfl
  | cons a l b=>
   simp only[List.size_toArray,List.flatMap_cons,List.length_append,List.length_cons,WI.dG] at b ⊢;omega
theorem dB(l:List WI):(blk l).toList=l.flatMap (·.cells.toList):=rfl
theorem gL(l:List WI)(k:Nat)(x:WI)(h:l[k]?=some x):(blk l).extract (18*k) (18*k+18)=x.cells:=by
 apply Array.ext';simp only[Array.toList_extract,dB,List.extract_eq_take_drop];induction l generalizing k with
 | nil=>simp at h
 | cons a l b=>
  rw[List.flatMap_cons];rcases k with _|k
  ·obtain rfl:a=x:=by simpa using h
   simp
  ·have:=b k (by simpa using h);rw[show 18*(k+1)=18+18*k by omega,List.drop_append,WI.dG,List.drop_eq_nil_of_le (by rw[WI.dG];omega),List.nil_append];rw[show 18+18*k-18=18*k by omega,show 18+18*k+18-(18+18*k)=18*k+18-18*k by omega];exact this
theorem fS(l:List WI)(k:Nat)(x:WI)(h:k<l.length):splice (blk l) (18*k) x.cells=blk (l.set k x):=by
 apply Array.ext';have c:x.cells.size=18:=by have:=x.dG;rwa [Array.length_toList] at this
 simp only[splice,dB,c];induction l generalizing k with
 | nil=>simp at h
 | cons a l b=>
  rcases k with _|k
  ·simp
  ·have:=b k (by simpa using h);simp only[List.flatMap_cons,List.set_cons_succ];rw[show 18*(k+1)=18+18*k by omega,List.take_append,List.drop_append];rw[WI.dG,List.take_of_length_le (by rw[WI.dG];omega),List.drop_eq_nil_of_le (by rw[WI.dG];omega)];rw[show 18+18*k-18=18*k by omega,show 18+18*k+18-18=18*k+18 by omega,List.nil_append,List.append_assoc,List.append_assoc];congr 1
   rw[<-List.append_assoc];exact this
@[simp] theorem FU(l : List WI):ones (blk l)=true:=by
  unfold ones;rw[<-Array.all_toList,dB,List.all_flatMap];rw[List.all_eq_true];intro a _;have:=a.tE;unfold ones at this;rw[<-Array.all_toList] at this;exact this
@[simp] theorem Gl(l : List WI)(n : Nat)(h : n=18 * l.length):(blk l).extract 0 n=blk l:=by
  have:=Array.extract_size (xs:=blk l);rw[js] at this;rw[h];exact this
@[simp] theorem gK(a : WI)(l : List WI):(blk (a :: l)).extract 0 18=a.cells:=gL _ 0 a rfl
@[simp] theorem gJ(a b : WI)(l : List WI):(blk (a :: b :: l)).extract 18 36=b.cells:=gL _ 1 b rfl
@[simp] theorem iK(a b c : WI)(l : List WI):(blk (a :: b :: c :: l)).extract 36 54=c.cells:=gL _ 2 c rfl
@[simp] theorem jQ(a b c d : WI)(l : List WI):(blk (a :: b :: c :: d :: l)).extract 54 72=d.cells:=gL _ 3 d rfl
@[simp] theorem jP(a b c d e : WI)(l : List WI):(blk (a :: b :: c :: d :: e :: l)).extract 72 90=e.cells:=gL _ 4 e rfl
@[simp] theorem tG(a b c d e f : WI)(l : List WI):(blk (a :: b :: c :: d :: e :: f :: l)).extract 90 108=f.cells:=gL _ 5 f rfl
@[simp] theorem mS(a b c d e f g : WI)(l : List WI):(blk (a :: b :: c :: d :: e :: f :: g :: l)).extract 108 126=g.cells:=gL _ 6 g rfl
@[simp] theorem Gy(x a : WI)(l : List WI):splice (blk (a :: l)) 0 x.cells=blk (x :: l):=fS _ 0 x (by simp)
@[simp] theorem Em(x a b c d : WI)(l : List WI):splice (blk (a :: b :: c :: d :: l)) 54 x.cells=blk (a :: b :: c :: x :: l):=fS _ 3 x (by simp)
@[simp] theorem Ek(x a b c d e : WI)(l : List WI):splice (blk (a :: b :: c :: d :: e :: l)) 72 x.cells=blk (a :: b :: c :: d :: x :: l):=fS _ 4 x (by simp)
theorem dy:cellsI false false 0=(WI.of 0).cells:=by
 rw[WI.dc];unfold WI.ng WI.ov WI.sz;rw[WI.of_v (by simpa using dP)];rfl
theorem aP(a:Nat->Option (Nat×Nat))(l:List WI)(k i:Nat)(x:WI)(b:List (Nat×Value))(e:a i=some (18*k,18))(h:k<l.length):Instr.fill a (blk l) ((i,.agg x.cells) :: b)=Instr.fill a (blk (l.set k x)) b:=by
 have c:x.cells.size=18:=by have:=x.dG;rwa [Array.length_toList] at this
 have f:=je (blk l) x.cells (18*k) (by rw[c,js];omega);rw[fS l k x h] at f
 have d:¬(decide ((Value.agg x.cells).cells.size≠18)||decide (18*k+(Value.agg x.cells).cells.size > (blk l).size))=true:=by
  simp only[Value.cells,c,js];simp;omega
 rw[Instr.fill];simp only[e];rw[if_neg d];congr 1
@[go_sem ↓] theorem nu(w : World):(zeroValue 225).run prog w=.ok (.agg (blk [WI.of 0, WI.of 0, WI.of 0, WI.of 0, WI.of 0, WI.of 0, WI.of 0])) w:=by
  have h:(blk [WI.of 0,WI.of 0,WI.of 0,WI.of 0,WI.of 0,WI.of 0,WI.of 0])=cellsI false false 0++cellsI false false 0++cellsI false false 0++cellsI false false 0++cellsI false false 0++cellsI false false 0++cellsI false false 0:=by
   rw[dy];apply Array.ext';simp[dB]
  rw[h,eF];exact zeroValue225 w
@[go_sem ↓] theorem Gj(P : Program)(w : World)(b o : Nat):(loadCellsFrom ⟨b, o, none⟩ 0 126 #[]).run P w=gT (w.row? b o 126) w (lcf P b o 126 w):=lcf_row? w b o 126
theorem dZ:(prog.info? 225).map (·.size)=some 126:=by kernel_rfl
def kI(P:Program)(t:TypeId)(n:Nat)(parts:Array (Nat×Value))(w:World):Result Value:=(Instr.buildSlice t n parts).run P w
def rG(P:Program)(t:TypeId)(parts:Array (Nat×Value))(w:World):Result Value:=(Instr.build t parts).run P w
@[go_sem ↓] theorem EA{P : Program}(ρ : Operand->Value)(f : Option Tmp)(g : TypeId)(e : String)(j : Array Edge)(i : Option (Nat×Bool))(a b c d : Operand)(w : World):(execOp ρ ⟨f,.buildSlice 356 4 #[(0,a),(1,b),(2,c),(3,d)],g,e,j,i⟩).run P w=(kI P 356 4 #[(0,ρ a),(1,ρ b),(2,ρ c),(3,ρ d)] w).andThen fun v h=>.ok (.value v) h:=by
 simp only[execOp,kI,Sem.run_bind,Sem.run_pure,List.map_toArray,List.map_cons,List.map_nil]
@[go_sem ↓] theorem ED{P : Program}(ρ : Operand->Value)(i : Option Tmp)(j : TypeId)(h : String)(m : Array Edge)(l : Option (Nat×Bool))(a b c d e f g : Operand)(w : World):(execOp ρ ⟨i,.build 225 #[(0,a),(1,b),(2,c),(3,d),(4,e),(5,f),(6,g)],j,h,m,l⟩).run P w=(rG P 225 #[(0,ρ a),(1,ρ b),(2,ρ c),(3,ρ d),(4,ρ e),(5,ρ f),(6,ρ g)] w).andThen fun v k=>.ok (.value v) k:=by
 simp only[execOp,rG,Sem.run_bind,Sem.run_pure,List.map_toArray,List.map_cons,List.map_nil]
@[go_sem ↓] theorem EI{P : Program}(ρ : Operand->Value)(e : Option Tmp)(h : TypeId)(d : String)(k : Array Edge)(j : Option (Nat×Bool))(a b c f g : Operand)(w : World):(execOp ρ ⟨e,.build 225 #[(0,a),(1,b),(2,c),(5,f),(6,g)],h,d,k,j⟩).run P w=(rG P 225 #[(0,ρ a),(1,ρ b),(2,ρ c),(5,ρ f),(6,ρ g)] w).andThen fun v i=>.ok (.value v) i:=by
 simp only[execOp,rG,Sem.run_bind,Sem.run_pure,List.map_toArray,List.map_cons,List.map_nil]
@[go_sem] theorem CX{α β : Type}(v : α)(w : World)(k : α->World->Result β):(Result.ok v w).andThen k=k v w:=rfl
theorem gC(a:Nat->Option (Nat×Nat))(c:Array Value):Instr.fill a c []=some c:=by rw [Instr.fill]
theorem lS(w:World):(sizeOf 153).run prog w=.ok 18 w:=by kernel_rfl
@[go_sem] theorem FV(a b c d e f g : WI)(w : World):rG prog 225 #[(0, .agg a.cells), (1, .agg b.cells), (2, .agg c.cells), (3, .agg d.cells), (4, .agg e.cells), (5, .agg f.cells), (6, .agg g.cells)] w=.ok (.agg (blk [a, b, c, d, e, f, g])) w:=by
  unfold rG Instr.build;simp only[Sem.run_bind,nu,Result.andThen_ok,Value.cells,run_underlying underlying225];generalize h:Sem.run prog (Array.mapM _ _) w=r;have i:r=.ok #[(0,18),(18,18),(36,18),(54,18),(72,18),(90,18),(108,18)] w:=by rw[<-h];kernel_rfl
  rw[i];simp only[Result.andThen_ok]
  rw[aP _ _ 0 0 a _ rfl (by simp),
   aP _ _ 1 1 b _ rfl (by simp),
   aP _ _ 2 2 c _ rfl (by simp),
   aP _ _ 3 3 d _ rfl (by simp),
   aP _ _ 4 4 e _ rfl (by simp),
   aP _ _ 5 5 f _ rfl (by simp),
   aP _ _ 6 6 g _ rfl (by simp),gC]
  simp
@[go_sem] theorem FW(a b c f g : WI)(w : World):rG prog 225 #[(0, .agg a.cells), (1, .agg b.cells), (2, .agg c.cells), (5, .agg f.cells), (6, .agg g.cells)] w=.ok (.agg (blk [a, b, c, WI.of 0, WI.of 0, f, g])) w:=by
  unfold rG Instr.build;simp only[Sem.run_bind,nu,Result.andThen_ok,Value.cells,run_underlying underlying225];generalize d:Sem.run prog (Array.mapM _ _) w=r;have e:r=.ok #[(0,18),(18,18),(36,18),(54,18),(72,18),(90,18),(108,18)] w:=by rw[<-d];kernel_rfl
  rw[e];simp only[Result.andThen_ok]
  rw[aP _ _ 0 0 a _ rfl (by simp),
   aP _ _ 1 1 b _ rfl (by simp),
   aP _ _ 2 2 c _ rfl (by simp),
   aP _ _ 5 5 f _ rfl (by simp),
   aP _ _ 6 6 g _ rfl (by simp),gC]
  simp
theorem vo:(Array.map (fun x=>(Value.agg #[false,false,.int .u64 0,.int .u64 0,.int .u64 0,.int .u64 0,.int .u64 0,.int .u64 0,.int .u64 0,.int .u64 0,.int .u64 0,.int .u64 0,.int .u64 0,.int .u64 0,.int .u64 0,.int .u64 0,.int .u64 0,.int .u64 0]).cells[x%(Value.agg #[false,false,.int .u64 0,.int .u64 0,.int .u64 0,.int .u64 0,.int .u64 0,.int .u64 0,.int .u64 0,.int .u64 0,.int .u64 0,.int .u64 0,.int .u64 0,.int .u64 0,.int .u64 0,.int .u64 0,.int .u64 0,.int .u64 0]).cells.size]!) (Array.range (4*18)))=#[.bool false,.bool false,.int .u64 0,.int .u64 0,.int .u64 0,.int .u64 0,.int .u64 0,.int .u64 0,.int .u64 0,.int .u64 0,.int .u64 0,.int .u64 0,.int .u64 0,.int .u64 0,.int .u64 0,.int .u64 0,.int .u64 0,.int .u64 0]++#[.bool false,.bool false,.int .u64 0,.int .u64 0,.int .u64 0,.int .u64 0,.int .u64 0,.int .u64 0,.int .u64 0,.int .u64 0,.int .u64 0,.int .u64 0,.int .u64 0,.int .u64 0,.int .u64 0,.int .u64 0,.int .u64 0,.int .u64 0]++#[.bool false,.bool false,.int .u64 0,.int .u64 0,.int .u64 0,.int .u64 0,.int .u64 0,.int .u64 0,.int .u64 0,.int .u64 0,.int .u64 0,.int .u64 0,.int .u64 0,.int .u64 0,.int .u64 0,.int .u64 0,.int .u64 0,.int .u64 0]++#[.bool false,.bool false,.int .u64 0,.int .u64 0,.int .u64 0,.int .u64 0,.int .u64 0,.int .u64 0,.int .u64 0,.int .u64 0,.int .u64 0,.int .u64 0,.int .u64 0,.int .u64 0,.int .u64 0,.int .u64 0,.int .u64 0,.int .u64 0]:=by kernel_rfl
theorem xr:(Array.map (fun x=>(Value.agg (cellsI false false 0)).cells[x%(Value.agg (cellsI false false 0)).cells.size]!) (Array.range (4*18)))=blk [WI.of 0,WI.of 0,WI.of 0,WI.of 0]:=by
 have h:blk [WI.of 0,WI.of 0,WI.of 0,WI.of 0]=cellsI false false 0++cellsI false false 0++cellsI false false 0++cellsI false false 0:=by
  rw[dy];apply Array.ext';simp[dB]
 rw[h,eF];exact vo
@[go_sem] theorem Fi(a b c d : WI)(w : World):kI prog 356 4 #[(0, .agg a.cells), (1, .agg b.cells), (2, .agg c.cells), (3, .agg d.cells)] w =
    .ok (.slice (some ⟨w.heap.size,0,none⟩) 4 4) (w.alloc (.cells (blk [a,b,c,d]) 153)):=by
 unfold kI Instr.buildSlice;simp only[Sem.run_bind,Result.andThen_ok,run_underlying underlying356,lS];rw[if_neg (by decide),if_neg (by decide)];simp only[Sem.run_bind,Sem.run_pure,Result.andThen_ok,lG];rw[xr,aP _ _ 0 0 a _ rfl (by simp),aP _ _ 1 1 b _ rfl (by simp),aP _ _ 2 2 c _ rfl (by simp),aP _ _ 3 3 d _ rfl (by simp),gC];simp only[newRow,newObj,Sem.run_bind,Sem.run_pure];rfl
@[go_sem ↓] theorem Ez{P : Program}(ρ : Operand->Value)(i : Option Tmp)(j : TypeId)(h : String)(m : Array Edge)(l : Option (Nat×Bool))(a b c d e f g : Operand)(w : World):(execOp ρ ⟨i,.buildSlice 356 7 #[(0,a),(1,b),(2,c),(3,d),(4,e),(5,f),(6,g)],j,h,m,l⟩).run P w=(kI P 356 7 #[(0,ρ a),(1,ρ b),(2,ρ c),(3,ρ d),(4,ρ e),(5,ρ f),(6,ρ g)] w).andThen fun v k=>.ok (.value v) k:=by
 simp only[execOp,kI,Sem.run_bind,Sem.run_pure,List.map_toArray,List.map_cons,List.map_nil]
theorem AF:(Array.map (fun x=>(Value.agg #[false,false,.int .u64 0,.int .u64 0,.int .u64 0,.int .u64 0,.int .u64 0,.int .u64 0,.int .u64 0,.int .u64 0,.int .u64 0,.int .u64 0,.int .u64 0,.int .u64 0,.int .u64 0,.int .u64 0,.int .u64 0,.int .u64 0]).cells[x%(Value.agg #[false,false,.int .u64 0,.int .u64 0,.int .u64 0,.int .u64 0,.int .u64 0,.int .u64 0,.int .u64 0,.int .u64 0,.int .u64 0,.int .u64 0,.int .u64 0,.int .u64 0,.int .u64 0,.int .u64 0,.int .u64 0,.int .u64 0]).cells.size]!) (Array.range (7*18)))=#[.bool false,.bool false,.int .u64 0,.int .u64 0,.int .u64 0,.int .u64 0,.int .u64 0,.int .u64 0,.int .u64 0,.int .u64 0,.int .u64 0,.int .u64 0,.int .u64 0,.int .u64 0,.int .u64 0,.int .u64 0,.int .u64 0,.int .u64 0]++#[.bool false,.bool false,.int .u64 0,.int .u64 0,.int .u64 0,.int .u64 0,.int .u64 0,.int .u64 0,.int .u64 0,.int .u64 0,.int .u64 0,.int .u64 0,.int .u64 0,.int .u64 0,.int .u64 0,.int .u64 0,.int .u64 0,.int .u64 0]++#[.bool false,.bool false,.int .u64 0,.int .u64 0,.int .u64 0,.int .u64 0,.int .u64 0,.int .u64 0,.int .u64 0,.int .u64 0,.int .u64 0,.int .u64 0,.int .u64 0,.int .u64 0,.int .u64 0,.int .u64 0,.int .u64 0,.int .u64 0]++#[.bool false,.bool false,.int .u64 0,.int .u64 0,.int .u64 0,.int .u64 0,.int .u64 0,.int .u64 0,.int .u64 0,.int .u64 0,.int .u64 0,.int .u64 0,.int .u64 0,.int .u64 0,.int .u64 0,.int .u64 0,.int .u64 0,.int .u64 0]++#[.bool false,.bool false,.int .u64 0,.int .u64 0,.int .u64 0,.int .u64 0,.int .u64 0,.int .u64 0,.int .u64 0,.int .u64 0,.int .u64 0,.int .u64 0,.int .u64 0,.int .u64 0,.int .u64 0,.int .u64 0,.int .u64 0,.int .u64 0]++#[.bool false,.bool false,.int .u64 0,.int .u64 0,.int .u64 0,.int .u64 0,.int .u64 0,.int .u64 0,.int .u64 0,.int .u64 0,.int .u64 0,.int .u64 0,.int .u64 0,.int .u64 0,.int .u64 0,.int .u64 0,.int .u64 0,.int .u64 0]++#[.bool false,.bool false,.int .u64 0,.int .u64 0,.int .u64 0,.int .u64 0,.int .u64 0,.int .u64 0,.int .u64 0,.int .u64 0,.int .u64 0,.int .u64 0,.int .u64 0,.int .u64 0,.int .u64 0,.int .u64 0,.int .u64 0,.int .u64 0]:=by kernel_rfl
theorem Dn:(Array.map (fun x=>(Value.agg (cellsI false false 0)).cells[x%(Value.agg (cellsI false false 0)).cells.size]!) (Array.range (7*18)))=blk [WI.of 0,WI.of 0,WI.of 0,WI.of 0,WI.of 0,WI.of 0,WI.of 0]:=by
 have h:blk [WI.of 0,WI.of 0,WI.of 0,WI.of 0,WI.of 0,WI.of 0,WI.of 0]=cellsI false false 0++cellsI false false 0++cellsI false false 0++cellsI false false 0++cellsI false false 0++cellsI false false 0++cellsI false false 0:=by
  rw[dy];apply Array.ext';simp[dB]
 rw[h,eF];exact AF
@[go_sem] theorem Fh(a b c d e f g : WI)(w : World):kI prog 356 7 #[(0, .agg a.cells), (1, .agg b.cells), (2, .agg c.cells), (3, .agg d.cells), (4, .agg e.cells), (5, .agg f.cells), (6, .agg g.cells)] w =
    .ok (.slice (some ⟨w.heap.size,0,none⟩) 7 7) (w.alloc (.cells (blk [a,b,c,d,e,f,g]) 153)):=by
 unfold kI Instr.buildSlice;simp only[Sem.run_bind,Result.andThen_ok,run_underlying underlying356,lS];rw[if_neg (by decide),if_neg (by decide)];simp only[Sem.run_bind,Sem.run_pure,Result.andThen_ok,lG];rw[Dn,aP _ _ 0 0 a _ rfl (by simp),aP _ _ 1 1 b _ rfl (by simp),aP _ _ 2 2 c _ rfl (by simp),aP _ _ 3 3 d _ rfl (by simp),aP _ _ 4 4 e _ rfl (by simp),aP _ _ 5 5 f _ rfl (by simp),aP _ _ 6 6 g _ rfl (by simp),gC];simp only[newRow,newObj,Sem.run_bind,Sem.run_pure];rfl
@[go_sem ↓] theorem Ey{P : Program}(ρ : Operand->Value)(j : Option Tmp)(k : TypeId)(i : String)(n : Array Edge)(m : Option (Nat×Bool))(a b c d e f g h : Operand)(w : World):(execOp ρ ⟨j,.buildSlice 356 8 #[(0,a),(1,b),(2,c),(3,d),(4,e),(5,f),(6,g),(7,h)],k,i,n,m⟩).run P w=(kI P 356 8 #[(0,ρ a),(1,ρ b),(2,ρ c),(3,ρ d),(4,ρ e),(5,ρ f),(6,ρ g),(7,ρ h)] w).andThen fun v l=>.ok (.value v) l:=by
 simp only[execOp,kI,Sem.run_bind,Sem.run_pure,List.map_toArray,List.map_cons,List.map_nil]
theorem AE:(Array.map (fun x=>(Value.agg #[false,false,.int .u64 0,.int .u64 0,.int .u64 0,.int .u64 0,.int .u64 0,.int .u64 0,.int .u64 0,.int .u64 0,.int .u64 0,.int .u64 0,.int .u64 0,.int .u64 0,.int .u64 0,.int .u64 0,.int .u64 0,.int .u64 0]).cells[x%(Value.agg #[false,false,.int .u64 0,.int .u64 0,.int .u64 0,.int .u64 0,.int .u64 0,.int .u64 0,.int .u64 0,.int .u64 0,.int .u64 0,.int .u64 0,.int .u64 0,.int .u64 0,.int .u64 0,.int .u64 0,.int .u64 0,.int .u64 0]).cells.size]!) (Array.range (8*18)))=#[.bool false,.bool false,.int .u64 0,.int .u64 0,.int .u64 0,.int .u64 0,.int .u64 0,.int .u64 0,.int .u64 0,.int .u64 0,.int .u64 0,.int .u64 0,.int .u64 0,.int .u64 0,.int .u64 0,.int .u64 0,.int .u64 0,.int .u64 0]++#[.bool false,.bool false,.int .u64 0,.int .u64 0,.int .u64 0,.int .u64 0,.int .u64 0,.int .u64 0,.int .u64 0,.int .u64 0,.int .u64 0,.int .u64 0,.int .u64 0,.int .u64 0,.int .u64 0,.int .u64 0,.int .u64 0,.int .u64 0]++#[.bool false,.bool false,.int .u64 0,.int .u64 0,.int .u64 0,.int .u64 0,.int .u64 0,.int .u64 0,.int .u64 0,.int .u64 0,.int .u64 0,.int .u64 0,.int .u64 0,.int .u64 0,.int .u64 0,.int .u64 0,.int .u64 0,.int .u64 0]++#[.bool false,.bool false,.int .u64 0,.int .u64 0,.int .u64 0,.int .u64 0,.int .u64 0,.int .u64 0,.int .u64 0,.int .u64 0,.int .u64 0,.int .u64 0,.int .u64 0,.int .u64 0,.int .u64 0,.int .u64 0,.int .u64 0,.int .u64 0]++#[.bool false,.bool false,.int .u64 0,.int .u64 0,.int .u64 0,.int .u64 0,.int .u64 0,.int .u64 0,.int .u64 0,.int .u64 0,.int .u64 0,.int .u64 0,.int .u64 0,.int .u64 0,.int .u64 0,.int .u64 0,.int .u64 0,.int .u64 0]++#[.bool false,.bool false,.int .u64 0,.int .u64 0,.int .u64 0,.int .u64 0,.int .u64 0,.int .u64 0,.int .u64 0,.int .u64 0,.int .u64 0,.int .u64 0,.int .u64 0,.int .u64 0,.int .u64 0,.int .u64 0,.int .u64 0,.int .u64 0]++#[.bool false,.bool false,.int .u64 0,.int .u64 0,.int .u64 0,.int .u64 0,.int .u64 0,.int .u64 0,.int .u64 0,.int .u64 0,.int .u64 0,.int .u64 0,.int .u64 0,.int .u64 0,.int .u64 0,.int .u64 0,.int .u64 0,.int .u64 0]++#[.bool false,.bool false,.int .u64 0,.int .u64 0,.int .u64 0,.int .u64 0,.int .u64 0,.int .u64 0,.int .u64 0,.int .u64 0,.int .u64 0,.int .u64 0,.int .u64 0,.int .u64 0,.int .u64 0,.int .u64 0,.int .u64 0,.int .u64 0]:=by kernel_rfl
theorem Dm:(Array.map (fun x=>(Value.agg (cellsI false false 0)).cells[x%(Value.agg (cellsI false false 0)).cells.size]!) (Array.range (8*18)))=blk [WI.of 0,WI.of 0,WI.of 0,WI.of 0,WI.of 0,WI.of 0,WI.of 0,WI.of 0]:=by
 have h:blk [WI.of 0,WI.of 0,WI.of 0,WI.of 0,WI.of 0,WI.of 0,WI.of 0,WI.of 0]=cellsI false false 0++cellsI false false 0++cellsI false false 0++cellsI false false 0++cellsI false false 0++cellsI false false 0++cellsI false false 0++cellsI false false 0:=by
  rw[dy];apply Array.ext';simp[dB]
 rw[h,eF];exact AE
@[go_sem] theorem Fg(a b c d e f g h : WI)(w : World):kI prog 356 8 #[(0, .agg a.cells), (1, .agg b.cells), (2, .agg c.cells), (3, .agg d.cells), (4, .agg e.cells), (5, .agg f.cells), (6, .agg g.cells), (7, .agg h.cells)] w =
    .ok (.slice (some ⟨w.heap.size,0,none⟩) 8 8) (w.alloc (.cells (blk [a,b,c,d,e,f,g,h]) 153)):=by
 unfold kI Instr.buildSlice;simp only[Sem.run_bind,Result.andThen_ok,run_underlying underlying356,lS];rw[if_neg (by decide),if_neg (by decide)];simp only[Sem.run_bind,Sem.run_pure,Result.andThen_ok,lG];rw[Dm,aP _ _ 0 0 a _ rfl (by simp),aP _ _ 1 1 b _ rfl (by simp),aP _ _ 2 2 c _ rfl (by simp),aP _ _ 3 3 d _ rfl (by simp),aP _ _ 4 4 e _ rfl (by simp),aP _ _ 5 5 f _ rfl (by simp),aP _ _ 6 6 g _ rfl (by simp),aP _ _ 7 7 h _ rfl (by simp),gC];simp only[newRow,newObj,Sem.run_bind,Sem.run_pure];rfl
theorem aL{w:World}{b o n:Nat}{cs:Array Value}(h:w.row? b o n=some cs):b<w.heap.size:=by
 unfold World.row? at h;split at h
 ·rename_i c t d a;exact ja a
 ·cases h
theorem aA{w:World}{b o n:Nat}{cs:Array Value}(h:w.row? b o n=some cs){a:Nat->Option eV}{g:Nat->Nat}{N:List Nat}(p:Inw w.drew a g N):p.w.row? b o n=some cs:=by
 have c:zB w p.w:=⟨p.low.os,p.low.tape,p.low.output,p.low.size,p.low.block⟩;rw[Below.row? c b o n (aL h)];exact h
def cK(a b c d:WI):WI:=((WI.of 0).add (a.mul b)).add (c.mul d)
def Fe(a b c d:WI)(k:Nat):WI:=if k=0 then WI.of 0 else if k=1 then (WI.of 0).add (a.mul b) else cK a b c d
theorem oO(a b c d:WI)(g:Nat)(w:World)(v:w.heap[g]?=some (.cells (blk [a,b,c,d]) 153 (0,0))):zR 212 #[.slice (some ⟨g,0,none⟩) 4 4] w (.agg (cK a b c d).cells):=by
 have m:Hid (Blk w g (blk [a,b,c,d]) 153):=v;have D:=m.out.lt;clear v;go_enter func212,ntmps212;go_wp2
 go_loopw [4] (fun i wr=>∃k:Nat,k<=2/\i=.int .i64 (2*k:Nat)/\Hid (zB w wr)/\Hid (Blk wr (w.heap.size+1) (Fe a b c d k).cells 153)/\Hid (Blk wr w.heap.size (WI.of 0).cells 153)) (fun i _=>4-(intOf i).toNat)
 case atStart=>
  refine⟨0,by omega,rfl,(show Below _ _ _ from ad),?_,?_⟩
  ·show Blk _ _ (WI.of 0).cells _;rw[<-dy];exact Blk.new' _ _ _ (by simp)
  ·rw[<-dy];exact(Blk.new _ _ _).alloc _
 case round=>
  obtain⟨k,E,rfl,f,o,r⟩:=hrel;rcases k with _|_|_|k
  ·have p:wr.row? (w.heap.size+1) 0 18=some (WI.of 0).cells:=o.out.row?_all 18 (by simp);have j:wr.row? g 0 18=some a.cells:=by rw[(m.out.keep f.out).row? 0 18 (by simp)];simp
   have t:wr.row? g 18 18=some b.cells:=by rw[(m.out.keep f.out).row? 18 18 (by simp)];simp
   have B:=@aA _ _ _ _ _ p;have A:=@aA _ _ _ _ _ j;have x:=@aA _ _ _ _ _ t;go_wp2
   refine aB 12 (fun _=>none) (fun _=>[]) (by kernel_rfl) (by kernel_rfl) ?_;apply Eb;apply Eb;apply Eb;apply Eb;apply Eb;apply Eb;apply Eb;apply Eb;apply Eb;apply Eb;apply Eb;apply Eb;refine⟨[],fun z C y=>?_⟩;simp only[List.take_succ_cons,List.take_zero,List.drop_succ_cons,List.drop_zero];(repeat (refine bi rfl ?_;go_big_quiet_step (first|exact rfl|(first|exact aF (cN _ _ _)|exact aF (mV _ _ _)));refine wpQuiet_nil ⟨rfl,?_⟩));refine bF ?_;intro h u _ _;have e:zB wr h:=u;have l:=Lh (o.out.keep e);have q:=Lh (r.out.keep e);have s:h.put? (w.heap.size+1) 0 ((WI.of 0).add (a.mul b)).cells=some (h.putRow (w.heap.size+1) 0 ((WI.of 0).add (a.mul b)).cells):=l.out.put? 0 _ (by simp) (by simp);go_wp2
   refine⟨⟨1,by omega,rfl,?_,?_,?_⟩,by simp[intOf]⟩
   ·exact ar (Below.trans f.out (e.mono f.out.size)) (by omega) _ _
   ·exact(l.out.aK 0 _).of_eq (by rw[dw _ _ (by simp)];rfl)
   ·exact q.out.aC (by omega) 0 _
  ·have p:wr.row? (w.heap.size+1) 0 18=some ((WI.of 0).add (a.mul b)).cells:=o.out.row?_all 18 (by simp);have j:wr.row? g 36 18=some c.cells:=by rw[(m.out.keep f.out).row? 36 18 (by simp)];simp
   have t:wr.row? g 54 18=some d.cells:=by rw[(m.out.keep f.out).row? 54 18 (by simp)];simp
   have B:=@aA _ _ _ _ _ p;have A:=@aA _ _ _ _ _ j;have x:=@aA _ _ _ _ _ t;go_wp2
   refine aB 12 (fun _=>none) (fun _=>[]) (by kernel_rfl) (by kernel_rfl) ?_;apply Eb;apply Eb;apply Eb;apply Eb;apply Eb;apply Eb;apply Eb;apply Eb;apply Eb;apply Eb;apply Eb;apply Eb;refine⟨[],fun z C y=>?_⟩;simp only[List.take_succ_cons,List.take_zero,List.drop_succ_cons,List.drop_zero];(repeat (refine bi rfl ?_;go_big_quiet_step (first|exact rfl|(first|exact aF (cN _ _ _)|exact aF (mV _ _ _)));refine wpQuiet_nil ⟨rfl,?_⟩));refine bF ?_;intro h u _ _;have e:zB wr h:=u;have l:=Lh (o.out.keep e);have q:=Lh (r.out.keep e);have s:h.put? (w.heap.size+1) 0 (((WI.of 0).add (a.mul b)).add (c.mul d)).cells=some (h.putRow (w.heap.size+1) 0 (((WI.of 0).add (a.mul b)).add (c.mul d)).cells):=l.out.put? 0 _ (by simp) (by simp);go_wp2
   refine⟨⟨2,by omega,rfl,?_,?_,?_⟩,by simp[intOf]⟩
   ·exact ar (Below.trans f.out (e.mono f.out.size)) (by omega) _ _
   ·exact(l.out.aK 0 _).of_eq (by rw[dw _ _ (by simp)];rfl)
   ·exact q.out.aC (by omega) 0 _
  ·have p:wr.row? (w.heap.size+1) 0 18=some (cK a b c d).cells:=o.out.row?_all 18 (by simp);have s:wr.put? w.heap.size 0 (cK a b c d).cells=some (wr.putRow w.heap.size 0 (cK a b c d).cells):=r.out.put? 0 _ (by simp) (by simp);have j:=cP s (n:=18) (by simp);go_wp2
   exact ak 18 (cK a b c d).cells rfl rfl rfl underlying153 rfl aE j ⟨rfl,ar f.out (Nat.le_refl _) _ _⟩
  ·omega
structure Iq where
 A:Int
 B:Int
 D:Int
 U:Int
 V:Int
 Z:Int
 N:Int
def Iq.ws(i:Iq):List WI:=[WI.of i.A,WI.of i.B,WI.of i.D,WI.of i.U,WI.of i.V,WI.of i.Z,WI.of i.N]
def Iq.zero:Iq:=⟨0,0,0,0,0,0,0⟩
abbrev iqV(i:Iq):Value:=.agg (blk i.ws)
theorem kR{j:Nat}(a b c d:Int)(h:Sm j a)(g:Sm j b)(e:Sm j c)(i:Sm j d)(l:j<=500):cK (WI.of a) (WI.of b) (WI.of c) (WI.of d)=WI.of (a*b+c*d):=by
 unfold cK;have f:=h.mul g;have k:=e.mul i
 rw[WI.au (h.lim (by omega)) (g.lim (by omega)),WI.au (e.lim (by omega)) (i.lim (by omega)),
  WI.ce (by simpa using dP) (f.lim (by omega)),Int.zero_add,WI.ce (f.lim (by omega)) (k.lim (by omega))]
def ofEl(e:El):Iq:=⟨e.d,-e.b,e.a,e.d*e.x + -e.b*e.y,-e.b*e.x+e.a*e.y,e.d*(e.x*e.x)+e.a*(e.y*e.y)+(-e.b*(e.x*e.y) + -e.b*(e.x*e.y)),e.a*e.d-e.b*e.b⟩
def ofE(e:El):Iq×Int:=if e.may=true then (ofEl e,0) else (Iq.zero,1)
theorem FY(a b d f e c:Int)(h:no a b d=ei f e c)(w:World):zR 210 #[ei a b d] w (ei f e c):=by
 rw[<-h];exact Ga a b d w
theorem qT(x y a b d:Int)(he:El.may ⟨x,y,a,b,d⟩=true)(w:World):zR 159 #[elC x y a b d] w (.tuple #[iqV (ofEl ⟨x,y,a,b,d⟩),.int .i64 0]):=by
 have m:=(El.aQ _).1 he;simp only at m;obtain⟨⟨m1,m2,m3,m4⟩,⟨m5,m6,m7,m8,m9,a5⟩,-⟩:=m;have HE:=Lh he;obtain⟨c,z⟩:∃c,c=-b:=⟨_,rfl⟩;have HA:Hid (no a b d=ei d c a):=by show _=_;unfold no;rw[if_pos (El.uk _ he),z]
 have K:Hid (I64 x/\I64 y/\I64 a/\I64 b/\I64 d/\I64 c):=by unfold Hid I64;omega
 have E1:Hid (cK (WI.of d) (WI.of x) (WI.of c) (WI.of y)=WI.of (d*x+c*y)):=kR (j:=63) _ _ _ _ (Sm.of64 (by omega) (by omega)) (Sm.of64 (by omega) (by omega)) (Sm.of64 (by omega) (by omega)) (Sm.of64 (by omega) (by omega)) (by decide);have E2:Hid (cK (WI.of c) (WI.of x) (WI.of a) (WI.of y)=WI.of (c*x+a*y)):=kR (j:=63) _ _ _ _ (Sm.of64 (by omega) (by omega)) (Sm.of64 (by omega) (by omega)) (Sm.of64 (by omega) (by omega)) (Sm.of64 (by omega) (by omega)) (by decide)
 have EF:Hid ((ofEl ⟨x,y,a,b,d⟩).ws=[WI.of d,WI.of c,WI.of a,WI.of (d*x+c*y),WI.of (c*x+a*y),WI.of (d*(x*x)+a*(y*y)+(c*(x*y)+c*(x*y))),WI.of (a*d-b*b)]):=by
  show _=_;rw[z];rfl
 clear he z m1 m2 m3 m4 m5 m6 m7 m8 m9 a5;go_enter func159,ntmps159;go_wp2_with fail;refine(bD _ _ _ _ _ _).mono ?_;rintro e w1 ⟨rfl,U⟩;rw[HE.out];have O:=U.size;(try simp at O);have W:=bq2 U (w.heap.size);go_wp2_with fail;refine(FY _ _ _ _ _ _ HA.out _).mono ?_;rintro e w2 ⟨rfl,R⟩;have P:=R.size;(try simp at P);have X:=bq2 R (w.heap.size);go_wp2_with fail;obtain⟨p,r⟩:∃p,p=w2.alloc (Obj.cells #[d,c,a] 33):=⟨_,rfl⟩;rw[<-r];have T:zB w2 p:=by rw[r];exact ad
 have N:=T.size;(try simp at N);have V:=bq2 T (w.heap.size);have B4:Hid (Blk p w2.heap.size #[d,c,a] 33):=by rw[r];exact Blk.new _ _ _
 clear r;have c0:=@ci _ _ _ (show p.cell? ⟨w.heap.size,0,none⟩=some (.int .i64 x) from(by go_simp));have c1:=@ci _ _ _ (show p.cell? ⟨w.heap.size,1,none⟩=some (.int .i64 y) from(by go_simp));have c2:=@ci _ _ _ (show p.cell? ⟨w.heap.size,2,none⟩=some (.int .i64 a) from(by go_simp));have c3:=@ci _ _ _ (show p.cell? ⟨w.heap.size,3,none⟩=some (.int .i64 b) from(by go_simp));have c4:=@ci _ _ _ (show p.cell? ⟨w.heap.size,4,none⟩=some (.int .i64 d) from(by go_simp));go_cut [5,6] from 7 (fun s5 s6 wc=>∃g h,s5=.pointer (some ⟨g,0,none⟩)/\s6=.pointer (some ⟨h,0,none⟩)/\p.heap.size<=g/\p.heap.size<=h/\wc.row? g 0 18=some (WI.of x).cells/\wc.row? h 0 18=some (WI.of y).cells/\Hid (zB p wc))
 case first=>
  refine aB 10 (fun k=>match k with|8=>some ⟨.cells (cellsI false false 0) 153,fun g=>.pointer (some ⟨g,0,none⟩)⟩|9=>some ⟨.cells (cellsI false false 0) 153,fun g=>.pointer (some ⟨g,0,none⟩)⟩|_=>none) (fun _=>[]) (by kernel_rfl) (by kernel_rfl) ?_;apply Eb;apply Eb;apply Eb;apply Eb;apply Eb;apply Eb;apply Eb;apply Eb;apply Ef;apply Ef;refine⟨[],fun f NN hN=>?_⟩;simp only[List.take_succ_cons,List.take_zero,List.drop_succ_cons,List.drop_zero];(repeat (first|(refine bi rfl ?_;go_big_quiet_step (first|exact rfl|(exact aF (eg _ (by first|exact K.out.1.1|exact K.out.2.1.1) (by first|exact K.out.1.2|exact K.out.2.1.2) _)));refine wpQuiet_nil ⟨rfl,?_⟩)|(refine bK _ (by rfl) (by rfl) ?hex ?_;(case hex=>(intro wx;first|(go_simp;done)|(go_simp;rfl)));simp only[Act.put,List.setIfInBounds_toArray,List.set_cons_succ,List.set_cons_zero])));refine bF ?_;intro B t u hd;have l:zB p B:=t;obtain⟨l8,e8⟩:=u 8 _ (by decide) rfl;obtain⟨l9,e9⟩:=u 9 _ (by decide) rfl;have ne:f 8≠f 9:=hd 8 9 (by decide) (by decide) rfl rfl (by decide);clear u hd t;have G8:Hid (Blk B (f 8) (cellsI false false 0) 153):=e8;have G9:Hid (Blk B (f 9) (cellsI false false 0) 153):=e9;have a7:B.put? (f 8) 0 (WI.of x).cells=some (B.putRow (f 8) 0 (WI.of x).cells):=G8.out.put? 0 _ (by simp) (by simp);have a6:(B.putRow (f 8) 0 (WI.of x).cells).put? (f 9) 0 (WI.of y).cells=some ((B.putRow (f 8) 0 (WI.of x).cells).putRow (f 9) 0 (WI.of y).cells):=(G9.out.aC (Ne.symm ne) 0 _).put? 0 _ (by simp) (by simp);clear e8 e9;go_wp2_with fail;go_meet;refine⟨f 8,f 9,rfl,rfl,l8,l9,?_,?_,?_⟩
  ·rw[((G8.out.aK 0 (WI.of x).cells).aC ne 0 _).row? 0 18 (by simp)];simp
  ·rw[((G9.out.aC (Ne.symm ne) 0 (WI.of x).cells).aK 0 _).row? 0 18 (by simp)];simp
  ·exact ar (ar l l8 _ _) l9 _ _
 case rest=>
  obtain⟨g5,g6,rfl,rfl,l5,l6,r5,r6,a2⟩:=hcut;have l:=a2.out;have H:=l.size;(try simp at H);have D:=bq l (w.heap.size);have F:=bq l (w.heap.size+1);have B5:=Lh (B4.out.keep l);have e0:=@ci _ _ _ (show wc.cell? ⟨w.heap.size,0,none⟩=some (.int .i64 x) from(by go_simp));have e1:=@ci _ _ _ (show wc.cell? ⟨w.heap.size,1,none⟩=some (.int .i64 y) from(by go_simp));have e2:=@ci _ _ _ (show wc.cell? ⟨w.heap.size,2,none⟩=some (.int .i64 a) from(by go_simp));have e3:=@ci _ _ _ (show wc.cell? ⟨w.heap.size,3,none⟩=some (.int .i64 b) from(by go_simp));have e4:=@ci _ _ _ (show wc.cell? ⟨w.heap.size,4,none⟩=some (.int .i64 d) from(by go_simp));have t0:=@ci _ _ _ (B5.out.cell (i:=0) rfl);have t1:=@ci _ _ _ (B5.out.cell (i:=1) rfl);have t2:=@ci _ _ _ (B5.out.cell (i:=2) rfl);go_wp2_with fail;go_cut [7] from 8 (fun s7 wd=>∃A,s7=.pointer (some ⟨A,0,none⟩)/\wc.heap.size<=A/\Hid (Blk wd A (blk [WI.of d,WI.of c,WI.of a,WI.of 0,WI.of 0,WI.of (d*(x*x)+a*(y*y)+(c*(x*y)+c*(x*y))),WI.of (a*d-b*b)]) 225)/\Hid (zB wc wd))
  case first=>
   refine aB 18 (fun k=>match k with|17=>some ⟨.cells (blk [WI.of 0,WI.of 0,WI.of 0,WI.of 0,WI.of 0,WI.of 0,WI.of 0]) 225,fun g=>.pointer (some ⟨g,0,none⟩)⟩|_=>none) (fun _=>[]) (by kernel_rfl) (by kernel_rfl) ?_;apply Eb;apply Eb;apply Eb;apply Eb;apply Eb;apply Eb;apply Eb;apply Eb;apply Eb;apply Eb;apply Eb;apply Eb;apply Eb;apply Eb;apply Eb;apply Eb;apply Eb;apply Ef;refine⟨[],fun f NN hN=>?_⟩;simp only[List.take_succ_cons,List.take_zero,List.drop_succ_cons,List.drop_zero];(repeat (first|(refine bi rfl ?_;go_big_quiet_step (first|exact rfl|(first|exact aF (eg _ (by first|exact K.out.2.2.1.1|exact K.out.2.2.2.2.1.1|exact K.out.2.2.2.2.2.1) (by first|exact K.out.2.2.1.2|exact K.out.2.2.2.2.1.2|exact K.out.2.2.2.2.2.2) _)|exact aF (xJ d c a x y K.out.2.2.2.2.1 K.out.2.2.2.2.2 K.out.2.2.1 K.out.1 K.out.2.1 _)|exact aF (qR a b d K.out.2.2.1 K.out.2.2.2.1 K.out.2.2.2.2.1 _)));refine wpQuiet_nil ⟨rfl,?_⟩)|(refine bK _ (by rfl) (by rfl) ?hex ?_;(case hex=>(intro wx;first|(go_simp;done)|(go_simp;rfl)));simp only[Act.put,List.setIfInBounds_toArray,List.set_cons_succ,List.set_cons_zero])));refine bF ?_;intro w5 s u _;have a3:zB wc w5:=s;obtain⟨M,J⟩:=u 17 _ (by decide) rfl;clear u s;have Q:Hid (Blk w5 (f 17) (blk [WI.of 0,WI.of 0,WI.of 0,WI.of 0,WI.of 0,WI.of 0,WI.of 0]) 225):=J;obtain⟨L,Y⟩:∃L,L=[WI.of d,WI.of c,WI.of a,WI.of 0,WI.of 0,WI.of (d*(x*x)+a*(y*y)+(c*(x*y)+c*(x*y))),WI.of (a*d-b*b)]:=⟨_,rfl⟩;have hl:L.length=7:=by rw[Y];rfl
   rw[<-Y];have HL:=Lh Y;clear Y;have hp:w5.put? (f 17) 0 (blk L)=some (w5.putRow (f 17) 0 (blk L)):=Q.out.put? 0 _ (by simp[hl]) (by simp);clear J;go_wp2_with fail;go_meet;rw[<-HL.out];exact⟨f 17,rfl,M,(Q.out.aK 0 _).of_eq (dw _ _ (by simp[hl])),ar a3 M _ _⟩
  case rest=>
   obtain⟨A,rfl,l7,Z,a4⟩:=hcut;have q:=a4.out;have S:=q.size;(try simp at S);have E:=bq q (w.heap.size);have G:=bq q (w.heap.size+1);have s5:=@aA _ _ _ _ _ ((Below.row? q g5 0 18 (aL r5)).trans r5);have s6:=@aA _ _ _ _ _ ((Below.row? q g6 0 18 (aL r6)).trans r6);have q0:=@aA _ _ _ _ _ ((Z.out.row? 0 18 (by simp)).trans (congrArg some (gK _ _)));have q1:=@aA _ _ _ _ _ ((Z.out.row? 18 18 (by simp)).trans (congrArg some (gJ _ _ _)));have q2:=@aA _ _ _ _ _ ((Z.out.row? 36 18 (by simp)).trans (congrArg some (iK _ _ _ _)));go_wp2_with fail;refine aB 17 (fun k=>match k with|6=>some ⟨.cells (blk [WI.of d,WI.of x,WI.of c,WI.of y]) 153,fun g=>.slice (some ⟨g,0,none⟩) 4 4⟩|14=>some ⟨.cells (blk [WI.of c,WI.of x,WI.of a,WI.of y]) 153,fun g=>.slice (some ⟨g,0,none⟩) 4 4⟩|_=>none) (fun k=>match k with|7=>[6]|15=>[14]|_=>[]) (by kernel_rfl) (by kernel_rfl) ?_;apply Eb;apply Eb;apply Eb;apply Eb;apply Eb;apply Eb;apply Ef;apply Eb;apply Eb;apply Eb;apply Eb;apply Eb;apply Eb;apply Eb;apply Ef;apply Eb;apply Eb;refine⟨[],fun f NN hN=>?_⟩;simp only[List.take_succ_cons,List.take_zero,List.drop_succ_cons,List.drop_zero];(repeat (first|(refine bi rfl ?_;go_big_quiet_step (first|exact rfl|(rename_i px;first|exact aF (oO _ _ _ _ _ _ (px.has 6 (hN 7 6 (by simp)) _ rfl).2)|exact aF (oO _ _ _ _ _ _ (px.has 14 (hN 15 14 (by simp)) _ rfl).2)));refine wpQuiet_nil ⟨rfl,?_⟩)|(refine bK _ (by rfl) (by rfl) ?hex ?_;(case hex=>(intro wx;first|(go_simp;done)|(go_simp;rfl)));simp only[Act.put,List.setIfInBounds_toArray,List.set_cons_succ,List.set_cons_zero])));refine bF ?_;intro w6 v u hd;clear u hd;have C:zB wc w6:=v;clear v;have I:=C.size;(try simp at I);have a0:=bq2 C (w.heap.size);have F6:w6.fits (w.heap.size+1) 126=true:=by go_simp
   have B7:=Lh (Z.out.keep C);have n7:w.heap.size+1≠A:=by omega
   have a8:=B7.out.put? 54 (cK (WI.of d) (WI.of x) (WI.of c) (WI.of y)).cells (by simp) (by simp);have B8:=Lh ((B7.out.aK 54 (cK (WI.of d) (WI.of x) (WI.of c) (WI.of y)).cells).of_eq (Em _ _ _ _ _ _));have a9:=B8.out.put? 72 (cK (WI.of c) (WI.of x) (WI.of a) (WI.of y)).cells (by simp) (by simp);have B9:=Lh ((B8.out.aK 72 (cK (WI.of c) (WI.of x) (WI.of a) (WI.of y)).cells).of_eq (Ek _ _ _ _ _ _ _));have r9:=B9.out.row?_all 126 (by simp)
   have F9:((w6.putRow A 54 (cK (WI.of d) (WI.of x) (WI.of c) (WI.of y)).cells).putRow A 72 (cK (WI.of c) (WI.of x) (WI.of a) (WI.of y)).cells).fits (w.heap.size+1) 126=true:=by
    rw[gz _ _ _ _ _ n7,gz _ _ _ _ _ n7];exact F6
   have a1:=put?_fits (o:=0) (cs:=blk [WI.of d,WI.of c,WI.of a,cK (WI.of d) (WI.of x) (WI.of c) (WI.of y),cK (WI.of c) (WI.of x) (WI.of a) (WI.of y),WI.of (d*(x*x)+a*(y*y)+(c*(x*y)+c*(x*y))),WI.of (a*d-b*b)]) (by simpa using F9) (by simp);have rR:=cP a1 (n:=126) (by simp);clear c0 c1 c2 c3 c4 e0 e1 e2 e3 e4 t0 t1 t2 s5 s6 q0 q1 q2;go_wp2_with fail;exact az 126 _ (.int .i64 0) rfl rfl rfl rfl underlying225 rfl dZ rR ⟨by rw[iqV,EF.out,E1.out,E2.out],ad⟩
theorem yu(e:El)(w:World):zR 159 #[elV e] w (.tuple #[iqV (ofE e).1,.int .i64 (ofE e).2]):=by
 obtain⟨x,y,a,b,d⟩:=e;cases he:El.may ⟨x,y,a,b,d⟩ with
 | true=>
  have:ofE ⟨x,y,a,b,d⟩=(ofEl ⟨x,y,a,b,d⟩,0):=by unfold ofE;rw[if_pos he]
  rw[this];exact qT x y a b d he w
 | false=>
  have k:=Lh he;have E:Hid (ofE ⟨x,y,a,b,d⟩=(Iq.zero,1)):=by show _=_;unfold ofE;rw[if_neg (by rw[he];decide)]
  clear he;show Calls prog 159 #[elC x y a b d] w _;go_enter func159,ntmps159;go_wp2_with fail;refine(bD _ _ _ _ _ _).mono ?_;rintro e j ⟨rfl,c⟩;rw[k.out];have f:=c.size;(try simp at f);have h:=bq c (w.heap.size);have i:=bq c (w.heap.size+1);have F1:j.fits (w.heap.size+1) 126=true:=by go_simp
  have g:=put?_fits (o:=0) (cs:=blk [WI.of 0,WI.of 0,WI.of 0,WI.of 0,WI.of 0,WI.of 0,WI.of 0]) (by simpa using F1) (by simp);have l:=cP g (n:=126) (by simp);go_wp2_with fail;exact az 126 _ (.int .i64 1) rfl rfl rfl rfl underlying225 rfl dZ l ⟨by rw[E.out];rfl,ad⟩
structure St where
 ox:Int
 oy:Int
 hx:Int
 hy:Int
 lo:Int
 hi:Int
abbrev stV(s:St):Value:=stC s.ox s.oy s.hx s.hy s.lo s.hi
def St.may(s:St):Bool:=mayPt s.ox s.oy&&(withinB s.hx s.hy 16777216&&(!(decide (s.hx=0)&&decide (s.hy=0))&&(decide (-1125899906842624<=s.lo)&&(decide (s.lo<s.hi)&&decide (s.hi<=1125899906842624)))))
theorem jT(x y m:Int):withinB x y m=true↔-m<=x/\x<=m/\-m<=y/\y<=m:=by unfold withinB;simp
theorem St.aQ(s:St):s.may=true↔(-4194304<=s.ox/\s.ox<=4194304/\-4194304<=s.oy/\s.oy<=4194304)/\(-16777216<=s.hx/\s.hx<=16777216/\-16777216<=s.hy/\s.hy<=16777216)/\¬(s.hx=0/\s.hy=0)/\-1125899906842624<=s.lo/\s.lo<s.hi/\s.hi<=1125899906842624:=by
 unfold St.may;simp only[Bool.and_eq_true,ic,jT,decide_eq_true_eq,Bool.not_eq_true',Bool.and_eq_false_iff,decide_eq_false_iff_not];constructor
 ·rintro⟨a,b,c,d⟩;exact⟨a,b,by omega,by omega⟩
 ·rintro⟨a,b,c,d⟩;exact⟨a,b,by omega,by omega⟩
theorem dC(x y m:Int)(e:0<=m/\m<=9223372036854775807)(w:World):zR 356 #[ptV x y,m] w (.bool (withinB x y m)):=by
 have f:IntKind.i64.wrap (-m)=-m:=by rw[IntKind.wrap_i64];omega
 have E:withinB x y m=(decide (-m<=x)&&(decide (x<=m)&&(decide (-m<=y)&&decide (y<=m)))):=by unfold withinB;simp
 by_cases b : -m<=x
 ·by_cases c:x<=m
  ·by_cases d : -m<=y
   ·have a:Hid (withinB x y m=decide (y<=m)):=by show _=_;rw[E];simp[b,c,d]
    clear E;go_enter func356,ntmps356;go_wp2
    go_ret;exact⟨by rw[a.out];rfl,ad⟩
   ·have a:Hid (withinB x y m=false):=by show _=_;rw[E];simp[b,c,d]
    clear E;go_enter func356,ntmps356;go_wp2
    go_ret;exact⟨by rw[a.out];rfl,ad⟩
  ·have a:Hid (withinB x y m=false):=by show _=_;rw[E];simp[b,c]
   clear E;go_enter func356,ntmps356;go_wp2
   go_ret;exact⟨by rw[a.out];rfl,ad⟩
 ·have a:Hid (withinB x y m=false):=by show _=_;rw[E];simp[b]
  clear E;go_enter func356,ntmps356;go_wp2
  go_ret;exact⟨by rw[a.out];rfl,ad⟩
theorem strip_cases(m n:Bool)(a b c d:Int):(m=false)∨(m=true/\n=false)∨(m=true/\n=true/\(a=0/\b=0))∨(m=true/\n=true/\¬(a=0/\b=0)/\¬-1125899906842624<=c)∨(m=true/\n=true/\¬(a=0/\b=0)/\-1125899906842624<=c/\¬c<d)∨
  (m=true/\n=true/\¬(a=0/\b=0)/\-1125899906842624<=c/\c<d):=by
 cases m<;>cases n<;>simp<;>omega
theorem sH(a b c d r q:Int)(w:World):zR 352 #[stC a b c d r q] w (.bool (St.may ⟨a,b,c,d,r,q⟩)):=by
 obtain⟨m,G⟩:∃m,m=mayPt a b:=⟨_,rfl⟩;obtain⟨n,F⟩:∃m,m=withinB c d 16777216:=⟨_,rfl⟩;have E:St.may ⟨a,b,c,d,r,q⟩=(m&&(n&&(!(decide (c=0)&&decide (d=0))&&(decide (-1125899906842624<=r)&&(decide (r<q)&&decide (q<=1125899906842624)))))):=by rw[G,F];rfl
 have u:=Lh G.symm;have z:=Lh F.symm;clear G F;rcases strip_cases m n c d r q with t|⟨t,v⟩|⟨t,v,p,A⟩|⟨t,v,p,A⟩|⟨t,v,p,A,H⟩|⟨t,v,p,A,H⟩
 case inl=>
  subst t;have o:Hid (St.may ⟨a,b,c,d,r,q⟩=false):=by show _=_;rw[E];rfl
  clear E;go_enter func352,ntmps352;go_wp2_with fail;refine(cQ _ _ _).mono ?_;rintro e x ⟨rfl,f⟩;rw[u.out];have g:=f.size;(try simp at g);have k:=bq f (w.heap.size);go_wp2
  go_ret;exact⟨by rw[o.out];rfl,ad⟩
 case inr.inl=>
  subst t;subst v;have o:Hid (St.may ⟨a,b,c,d,r,q⟩=false):=by show _=_;rw[E];rfl
  clear E;go_enter func352,ntmps352;go_wp2_with fail;refine(cQ _ _ _).mono ?_;rintro e x ⟨rfl,f⟩;rw[u.out];have g:=f.size;(try simp at g);have k:=bq f (w.heap.size);go_wp2_with fail;refine(dC _ _ _ (by decide) _).mono ?_;rintro e B ⟨rfl,j⟩;rw[z.out];have i:=j.size;(try simp at i);have l:=bq j (w.heap.size);go_wp2
  go_ret;exact⟨by rw[o.out];rfl,ad⟩
 case inr.inr.inl=>
  subst t;subst v;subst p;subst A;have o:Hid (St.may ⟨a,b,0,0,r,q⟩=false):=by show _=_;rw[E];rfl
  clear E;go_enter func352,ntmps352;go_wp2_with fail;refine(cQ _ _ _).mono ?_;rintro e x ⟨rfl,f⟩;rw[u.out];have g:=f.size;(try simp at g);have k:=bq f (w.heap.size);go_wp2_with fail;refine(dC _ _ _ (by decide) _).mono ?_;rintro e B ⟨rfl,j⟩;rw[z.out];have i:=j.size;(try simp at i);have l:=bq j (w.heap.size);go_wp2
  go_ret;exact⟨by rw[o.out];rfl,ad⟩
 case inr.inr.inr.inl=>
  subst t;subst v
  have o:Hid (St.may ⟨a,b,c,d,r,q⟩=false):=by
   have D:(decide (c=0)&&decide (d=0))=false:=by rw[Bool.and_eq_false_iff,decide_eq_false_iff_not,decide_eq_false_iff_not];omega
   show _=_;rw[E,D,decide_eq_false A];simp
  have s:c=0->¬d=0:=fun h C=>p ⟨h,C⟩;clear E;rcases Decidable.em (c=0) with y|y
  ·subst y;have I:¬d=0:=s rfl;clear s p;go_enter func352,ntmps352;go_wp2_with fail;refine(cQ _ _ _).mono ?_;rintro e x ⟨rfl,f⟩;rw[u.out];have g:=f.size;(try simp at g);have k:=bq f (w.heap.size);go_wp2_with fail;refine(dC _ _ _ (by decide) _).mono ?_;rintro e B ⟨rfl,j⟩;rw[z.out];have i:=j.size;(try simp at i);have l:=bq j (w.heap.size);go_wp2_with fail;go_ret;exact⟨by rw[o.out];rfl,ad⟩
  ·clear s p;go_enter func352,ntmps352;go_wp2_with fail;refine(cQ _ _ _).mono ?_;rintro e x ⟨rfl,f⟩;rw[u.out];have g:=f.size;(try simp at g);have k:=bq f (w.heap.size);go_wp2_with fail;refine(dC _ _ _ (by decide) _).mono ?_;rintro e B ⟨rfl,j⟩;rw[z.out];have i:=j.size;(try simp at i);have l:=bq j (w.heap.size);go_wp2_with fail;go_ret;exact⟨by rw[o.out];rfl,ad⟩
 case inr.inr.inr.inr.inl=>
  subst t;subst v
  have o:Hid (St.may ⟨a,b,c,d,r,q⟩=false):=by
   have D:(decide (c=0)&&decide (d=0))=false:=by rw[Bool.and_eq_false_iff,decide_eq_false_iff_not,decide_eq_false_iff_not];omega
   show _=_;rw[E,D,decide_eq_true A,decide_eq_false H];simp
  have s:c=0->¬d=0:=fun h C=>p ⟨h,C⟩;clear E;rcases Decidable.em (c=0) with y|y
  ·subst y;have I:¬d=0:=s rfl;clear s p;go_enter func352,ntmps352;go_wp2_with fail;refine(cQ _ _ _).mono ?_;rintro e x ⟨rfl,f⟩;rw[u.out];have g:=f.size;(try simp at g);have k:=bq f (w.heap.size);go_wp2_with fail;refine(dC _ _ _ (by decide) _).mono ?_;rintro e B ⟨rfl,j⟩;rw[z.out];have i:=j.size;(try simp at i);have l:=bq j (w.heap.size);go_wp2_with fail;go_ret;exact⟨by rw[o.out];rfl,ad⟩
  ·clear s p;go_enter func352,ntmps352;go_wp2_with fail;refine(cQ _ _ _).mono ?_;rintro e x ⟨rfl,f⟩;rw[u.out];have g:=f.size;(try simp at g);have k:=bq f (w.heap.size);go_wp2_with fail;refine(dC _ _ _ (by decide) _).mono ?_;rintro e B ⟨rfl,j⟩;rw[z.out];have i:=j.size;(try simp at i);have l:=bq j (w.heap.size);go_wp2_with fail;go_ret;exact⟨by rw[o.out];rfl,ad⟩
 case inr.inr.inr.inr.inr=>
  subst t;subst v
  have o:Hid (St.may ⟨a,b,c,d,r,q⟩=decide (q<=1125899906842624)):=by
   have D:(decide (c=0)&&decide (d=0))=false:=by rw[Bool.and_eq_false_iff,decide_eq_false_iff_not,decide_eq_false_iff_not];omega
   show _=_;rw[E,D,decide_eq_true A,decide_eq_true H];simp
  have s:c=0->¬d=0:=fun h C=>p ⟨h,C⟩;clear E;rcases Decidable.em (c=0) with y|y
  ·subst y;have I:¬d=0:=s rfl;clear s p;go_enter func352,ntmps352;go_wp2_with fail;refine(cQ _ _ _).mono ?_;rintro e x ⟨rfl,f⟩;rw[u.out];have g:=f.size;(try simp at g);have k:=bq f (w.heap.size);go_wp2_with fail;refine(dC _ _ _ (by decide) _).mono ?_;rintro e B ⟨rfl,j⟩;rw[z.out];have i:=j.size;(try simp at i);have l:=bq j (w.heap.size);go_wp2_with fail;go_ret;exact⟨by rw[o.out];rfl,ad⟩
  ·clear s p;go_enter func352,ntmps352;go_wp2_with fail;refine(cQ _ _ _).mono ?_;rintro e x ⟨rfl,f⟩;rw[u.out];have g:=f.size;(try simp at g);have k:=bq f (w.heap.size);go_wp2_with fail;refine(dC _ _ _ (by decide) _).mono ?_;rintro e B ⟨rfl,j⟩;rw[z.out];have i:=j.size;(try simp at i);have l:=bq j (w.heap.size);go_wp2_with fail;go_ret;exact⟨by rw[o.out];rfl,ad⟩
theorem fK(a b c d e f:Int)(m:Bool)(h:St.may ⟨a,b,c,d,e,f⟩=m)(w:World):zR 352 #[stC a b c d e f] w (.bool m):=by
 subst h;exact sH a b c d e f w
def St.m(s:St):Int:=s.lo+s.hi+2*s.hx*s.ox+2*s.hy*s.oy
def iZ(s:St):Iq:=⟨2*s.hx*(2*s.hx),2*s.hx*(2*s.hy),2*s.hy*(2*s.hy),s.m*(2*s.hx),s.m*(2*s.hy),s.m*s.m,(s.hi-s.lo)*(s.hi-s.lo)⟩
def ofSt(s:St):Iq×Int:=if s.may=true then (iZ s,0) else (Iq.zero,1)
theorem ib(a b m n:Int)(l : -m<=a)(e:a<=m)(j : -n<=b)(k:b<=n):-(m*n)<=a*b/\a*b<=m*n:=by
 have f:0<=(m-a)*(n-b):=Int.mul_nonneg (by omega) (by omega);have p:0<=(m+a)*(n+b):=Int.mul_nonneg (by omega) (by omega);have g:0<=(m-a)*(n+b):=Int.mul_nonneg (by omega) (by omega);have c:0<=(m+a)*(n-b):=Int.mul_nonneg (by omega) (by omega);have o:(m-a)*(n-b)=m*n-m*b-a*n+a*b:=by grind
 have i:(m+a)*(n+b)=m*n+m*b+a*n+a*b:=by grind
 have d:(m-a)*(n+b)=m*n+m*b-a*n-a*b:=by grind
 have h:(m+a)*(n-b)=m*n-m*b+a*n-a*b:=by grind
 omega
theorem sD{a b:Int}(d:Sm 63 a)(c:Sm 63 b):(WI.of a).mul (WI.of b)=WI.of (a*b):=WI.au (d.lim (by decide)) (c.lim (by decide))
theorem pv(a b c d A y:Int)(hs:St.may ⟨a,b,c,d,A,y⟩=true)(w:World):zR 357 #[stC a b c d A y] w (.tuple #[iqV (iZ ⟨a,b,c,d,A,y⟩),.int .i64 0]):=by
 have m:=(St.aQ _).1 hs;simp only at m;obtain⟨⟨m1,m2,m3,m4⟩,⟨m5,m6,m7,m8⟩,-,m9,c6,c1⟩:=m;have HS:=Lh hs;obtain⟨X,hX⟩:∃X,2*c=X:=⟨_,rfl⟩;obtain⟨Y,hY⟩:∃X,2*d=X:=⟨_,rfl⟩;have x1 : -33554432<=X/\X<=33554432:=by omega
 have y1 : -33554432<=Y/\Y<=33554432:=by omega
 obtain⟨p1,p2⟩:=ib X a 33554432 4194304 x1.1 x1.2 m1 m2;obtain⟨p3,p4⟩:=ib Y b 33554432 4194304 y1.1 y1.2 m3 m4;obtain⟨P,hP⟩:∃P,X*a=P:=⟨_,rfl⟩;obtain⟨Q,hQ⟩:∃P,Y*b=P:=⟨_,rfl⟩;rw[hP] at p1 p2;rw[hQ] at p3 p4;have d0 : -140737488355328<=P:=by omega
 have c7:P<=140737488355328:=by omega
 have c9 : -140737488355328<=Q:=by omega
 have d2:Q<=140737488355328:=by omega
 obtain⟨S1,a7⟩:∃S,A+y=S:=⟨_,rfl⟩;obtain⟨S2,b0⟩:∃S,S1+P=S:=⟨_,rfl⟩;obtain⟨M,hM⟩:∃S,S2+Q=S:=⟨_,rfl⟩;obtain⟨N,b2⟩:∃S,y-A=S:=⟨_,rfl⟩;have s1 : -2251799813685248<=S1/\S1<=2251799813685248:=by omega
 have s2 : -3000000000000000<=S2/\S2<=3000000000000000:=by omega
 have s3 : -4000000000000000<=M/\M<=4000000000000000:=by omega
 have s4:0<=N/\N<=2251799813685248:=by omega
 have K:Hid (I64 X/\I64 Y/\I64 M/\I64 N):=by unfold Hid I64;omega
 have EF:Hid ((iZ ⟨a,b,c,d,A,y⟩).ws=[(WI.of X).mul (WI.of X),(WI.of X).mul (WI.of Y),(WI.of Y).mul (WI.of Y),(WI.of M).mul (WI.of X),(WI.of M).mul (WI.of Y),(WI.of M).mul (WI.of M),(WI.of N).mul (WI.of N)]):=by
  have kX:=Sm.of64 K.out.1.1 K.out.1.2;have W:=Sm.of64 K.out.2.1.1 K.out.2.1.2;have kM:=Sm.of64 K.out.2.2.1.1 K.out.2.2.1.2;have kN:=Sm.of64 K.out.2.2.2.1 K.out.2.2.2.2;show _=_;rw[sD kX kX,sD kX W,sD W W,sD kM kX,sD kM W,sD kM kM,sD kN kN];have em:St.m ⟨a,b,c,d,A,y⟩=M:=by unfold St.m;simp only;rw[hX,hY,hP,hQ,<-hM,<-b0,<-a7]
  unfold iZ Iq.ws;rw[em];simp only[hX,hY,b2]
 obtain⟨b3,b7⟩:=s1;obtain⟨c5,c4⟩:=s2;obtain⟨b6,c3⟩:=s3;obtain⟨c8,b5⟩:=s4;obtain⟨c2,d1⟩:=x1;obtain⟨c0,b4⟩:=y1;clear hs p1 p2 p3 p4;go_enter func357,ntmps357;go_wp2_with fail;refine(fK _ _ _ _ _ _ _ HS.out _).mono ?_;rintro e V ⟨rfl,z⟩;have J:=z.size;(try simp at J);have b1:=bq z (w.heap.size);have a5:=bq z (w.heap.size+1);go_wp2_with fail;obtain⟨t,p⟩:∃t,t=V.alloc (Obj.cells #[X,Y] 31):=⟨_,rfl⟩;rw[<-p];have q:zB V t:=by rw[p];exact ad
 have I:=q.size;(try simp at I);have a8:=bq q (w.heap.size);have a4:=bq q (w.heap.size+1);have B4:Hid (Blk t V.heap.size #[X,Y] 31):=by rw[p];exact Blk.new _ _ _
 clear p;go_cut [5,6] from 7 (fun s5 s6 wc=>∃g h,s5=.pointer (some ⟨g,0,none⟩)/\s6=.pointer (some ⟨h,0,none⟩)/\t.heap.size<=g/\t.heap.size<=h/\Hid (wc.row? g 0 18=some (WI.of X).cells)/\Hid (wc.row? h 0 18=some (WI.of Y).cells)/\Hid (zB t wc))
 case first=>
  have t0:=@ci _ _ _ (B4.out.cell (i:=0) rfl);have t1:=@ci _ _ _ (B4.out.cell (i:=1) rfl);refine aB 8 (fun k=>match k with|6=>some ⟨.cells (cellsI false false 0) 153,fun g=>.pointer (some ⟨g,0,none⟩)⟩|7=>some ⟨.cells (cellsI false false 0) 153,fun g=>.pointer (some ⟨g,0,none⟩)⟩|_=>none) (fun _=>[]) (by kernel_rfl) (by kernel_rfl) ?_;apply Eb;apply Eb;apply Eb;apply Eb;apply Eb;apply Eb;apply Ef;apply Ef;refine⟨[],fun j NN hN=>?_⟩;simp only[List.take_succ_cons,List.take_zero,List.drop_succ_cons,List.drop_zero];(repeat (first|(refine bi rfl ?_;go_big_quiet_step (first|exact rfl|(exact aF (eg _ (by first|exact K.out.1.1|exact K.out.2.1.1) (by first|exact K.out.1.2|exact K.out.2.1.2) _)));refine wpQuiet_nil ⟨rfl,?_⟩)|(refine bK _ (by rfl) (by rfl) ?hex ?_;(case hex=>(intro wx;first|(go_simp;done)|(go_simp;rfl)));simp only[Act.put,List.setIfInBounds_toArray,List.set_cons_succ,List.set_cons_zero])));refine bF ?_;intro x v hh hd;have f:zB t x:=v;obtain⟨l8,e8⟩:=hh 6 _ (by decide) rfl;obtain⟨l9,e9⟩:=hh 7 _ (by decide) rfl;have ne:j 6≠j 7:=hd 6 7 (by decide) (by decide) rfl rfl (by decide);clear hh hd v;have G8:Hid (Blk x (j 6) (cellsI false false 0) 153):=e8;have G9:Hid (Blk x (j 7) (cellsI false false 0) 153):=e9;have b9:x.put? (j 6) 0 (WI.of X).cells=some (x.putRow (j 6) 0 (WI.of X).cells):=G8.out.put? 0 _ (by simp) (by simp);have b8:(x.putRow (j 6) 0 (WI.of X).cells).put? (j 7) 0 (WI.of Y).cells=some ((x.putRow (j 6) 0 (WI.of X).cells).putRow (j 7) 0 (WI.of Y).cells):=(G9.out.aC (Ne.symm ne) 0 _).put? 0 _ (by simp) (by simp);clear e8 e9;go_wp2_with fail;go_meet;refine⟨j 6,j 7,rfl,rfl,l8,l9,?_,?_,?_⟩
  ·show _=_;rw[((G8.out.aK 0 (WI.of X).cells).aC ne 0 _).row? 0 18 (by simp)];simp
  ·show _=_;rw[((G9.out.aC (Ne.symm ne) 0 (WI.of X).cells).aK 0 _).row? 0 18 (by simp)];simp
  ·exact ar (ar f l8 _ _) l9 _ _
 case rest=>
  obtain⟨g5,g6,rfl,rfl,l5,l6,r5,r6,a6⟩:=hcut;have f:=a6.out;have E:=f.size;(try simp at E);have B:=bq f (w.heap.size);have C:=bq f (w.heap.size+1);have B5:=Lh (B4.out.keep f);have u0:=B5.out.cell (i:=0) rfl;have u1:=B5.out.cell (i:=1) rfl;have z4:=f.size;have z3:=q.size;have y4:V.heap.size<wc.heap.size:=B5.out.lt;go_wp2_with fail;refine(eg M K.out.2.2.1.1 K.out.2.2.1.2 _).mono ?_;rintro e w5 ⟨rfl,H⟩;have D:=H.size;(try simp at D);have a0:=bq2 H (w.heap.size);go_wp2_with fail;refine(eg N K.out.2.2.2.1 K.out.2.2.2.2 _).mono ?_;rintro e w6 ⟨rfl,r⟩;have F:=r.size;(try simp at F);have a9:=bq r (w.heap.size);have a3:=bq r (w.heap.size+1);go_wp2_with fail;obtain⟨G,s⟩:∃G,G=w6.alloc (Obj.cells (WI.of N).cells 153):=⟨_,rfl⟩;rw[<-s];have T:=Lh ((((Blk.new w5 (WI.of M).cells 153).keep r).alloc (Obj.cells (WI.of N).cells 153)).row?_all 18 (by simp));have U:=Lh ((Blk.new w6 (WI.of N).cells 153).row?_all 18 (by simp));rw[<-s] at T U;have l:zB wc G:=by rw[s];exact ad
  clear s;have L:=l.size;(try simp at L);have Z:=bq2 l (w.heap.size);have F7:G.fits (w.heap.size+1) 126=true:=by go_simp
  have q0:=@aA _ _ _ _ _ ((Below.row? l g5 0 18 (aL r5.out)).trans r5.out);have q1:=@aA _ _ _ _ _ ((Below.row? l g6 0 18 (aL r6.out)).trans r6.out);have q2:=@aA _ _ _ _ _ T.out;have q3:=@aA _ _ _ _ _ U.out;refine aB 22 (fun _=>none) (fun _=>[]) (by kernel_rfl) (by kernel_rfl) ?_;apply Eb;apply Eb;apply Eb;apply Eb;apply Eb;apply Eb;apply Eb;apply Eb;apply Eb;apply Eb;apply Eb;apply Eb;apply Eb;apply Eb;apply Eb;apply Eb;apply Eb;apply Eb;apply Eb;apply Eb;apply Eb;apply Eb;refine⟨[],fun j NN hN=>?_⟩;simp only[List.take_succ_cons,List.take_zero,List.drop_succ_cons,List.drop_zero];(repeat (refine bi rfl ?_;go_big_quiet_step (first|exact rfl|(exact aF (cN _ _ _)));refine wpQuiet_nil ⟨rfl,?_⟩));refine bF ?_;intro w8 u _ _;have R:zB G w8:=u;clear u q0 q1 q2 q3;have O:=R.size;(try simp at O);have a1:=bq2 R (w.heap.size);have F8:w8.fits (w.heap.size+1) 126=true:=by go_simp
  have a2:=put?_fits (o:=0) (cs:=blk [(WI.of X).mul (WI.of X),(WI.of X).mul (WI.of Y),(WI.of Y).mul (WI.of Y),(WI.of M).mul (WI.of X),(WI.of M).mul (WI.of Y),(WI.of M).mul (WI.of M),(WI.of N).mul (WI.of N)]) (by simpa using F8) (by simp);have rR:=cP a2 (n:=126) (by simp);go_wp2_with fail;exact az 126 _ (.int .i64 0) rfl rfl rfl rfl underlying225 rfl dZ rR ⟨by rw[iqV,EF.out],ad⟩
theorem vI(s:St)(w:World):zR 357 #[stV s] w (.tuple #[iqV (ofSt s).1,.int .i64 (ofSt s).2]):=by
 obtain⟨a,b,c,d,h,g⟩:=s;cases he:St.may ⟨a,b,c,d,h,g⟩ with
 | true=>
  have:ofSt ⟨a,b,c,d,h,g⟩=(iZ ⟨a,b,c,d,h,g⟩,0):=by unfold ofSt;rw[if_pos he]
  rw[this];exact pv a b c d h g he w
 | false=>
  have m:=Lh he;have E:Hid (ofSt ⟨a,b,c,d,h,g⟩=(Iq.zero,1)):=by show _=_;unfold ofSt;rw[if_neg (by rw[he];decide)]
  clear he;show Calls prog 357 #[stC a b c d h g] w _;go_enter func357,ntmps357;go_wp2_with fail;refine(fK _ _ _ _ _ _ _ m.out _).mono ?_;rintro e p ⟨rfl,f⟩;have i:=f.size;(try simp at i);have k:=bq f (w.heap.size);have l:=bq f (w.heap.size+1);have F1:p.fits (w.heap.size+1) 126=true:=by go_simp
  have j:=put?_fits (o:=0) (cs:=blk [WI.of 0,WI.of 0,WI.of 0,WI.of 0,WI.of 0,WI.of 0,WI.of 0]) (by simpa using F1) (by simp);have q:=cP j (n:=126) (by simp);go_wp2_with fail;exact az 126 _ (.int .i64 1) rfl rfl rfl rfl underlying225 rfl dZ q ⟨by rw[E.out];rfl,ad⟩
end Go.Proofs.YtechbdnhalmobaaGreatDoor
