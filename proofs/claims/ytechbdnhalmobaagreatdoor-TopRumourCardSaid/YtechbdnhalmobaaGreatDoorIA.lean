/- Laws and walks that the claim names. -/
import Derived.Test.YtechbdnhalmobaaGreatDoorBE
import Derived.Deep.Cut
namespace Go.Proofs.YtechbdnhalmobaaGreatDoor
set_option maxRecDepth 100000
set_option maxHeartbeats 16000000
set_option linter.unusedSimpArgs false
set_option linter.unusedVariables false
open Go.RowKit
def blk (l:List WI):Array Value:=(l.flatMap (·.cells.toList)).toArray
theorem WI.cells_len (x:WI):x.cells.toList.length=18:=by rw [x.cells_eq];simp
@[simp] theorem blk_size (l : List WI) : (blk l).size = 18 * l.length := by
  unfold blk
  induction l with
  | nil=>rfl
  | cons a l ih =>
   simp only [List.size_toArray,List.flatMap_cons,List.length_append,List.length_cons,WI.cells_len] at ih ⊢
   omega
theorem blk_toList (l:List WI):(blk l).toList=l.flatMap (·.cells.toList):=rfl
theorem blk_at (l:List WI) (k:Nat) (x:WI) (h:l[k]? = some x):(blk l).extract (18*k) (18*k+18)=x.cells:=by
 apply Array.ext'
 simp only [Array.toList_extract,blk_toList,List.extract_eq_take_drop]
 induction l generalizing k with
 | nil=>simp at h
 | cons a l ih =>
  rw [List.flatMap_cons]
  rcases k with _|k
  ·obtain rfl:a=x:=by simpa using h
   simp
  ·have:=ih k (by simpa using h)
   rw [show 18*(k+1)=18+18*k by omega,List.drop_append,WI.cells_len,List.drop_eq_nil_of_le (by rw [WI.cells_len];omega),List.nil_append]
   rw [show 18+18*k-18=18*k by omega,show 18+18*k+18-(18+18*k)=18*k+18-18*k by omega]
   exact this
theorem blk_splice (l:List WI) (k:Nat) (x:WI) (h:k<l.length):splice (blk l) (18*k) x.cells=blk (l.set k x):=by
 apply Array.ext'
 have hs:x.cells.size=18:=by have:=x.cells_len;rwa [Array.length_toList] at this
 simp only [splice,blk_toList,hs]
 induction l generalizing k with
 | nil=>simp at h
 | cons a l ih =>
  rcases k with _|k
  ·simp
  ·have:=ih k (by simpa using h)
   simp only [List.flatMap_cons,List.set_cons_succ]
   rw [show 18*(k+1)=18+18*k by omega,List.take_append,List.drop_append]
   rw [WI.cells_len,List.take_of_length_le (by rw [WI.cells_len];omega),List.drop_eq_nil_of_le (by rw [WI.cells_len];omega)]
   rw [show 18+18*k-18=18*k by omega,show 18+18*k+18-18=18*k+18 by omega,List.nil_append,List.append_assoc,List.append_assoc]
   congr 1
   rw [← List.append_assoc];exact this
@[simp] theorem blk_ones (l : List WI) : ones (blk l) = true := by
  unfold ones
  rw [← Array.all_toList,blk_toList,List.all_flatMap]
  rw [List.all_eq_true]
  intro a _
  have:=a.cells_ones
  unfold ones at this
  rw [← Array.all_toList] at this
  exact this
@[simp] theorem blk_all (l : List WI) (n : Nat) (h : n = 18 * l.length) : (blk l).extract 0 n = blk l := by
  have:=Array.extract_size (xs:=blk l);rw [blk_size] at this;rw [h];exact this
@[simp] theorem blk_x0 (a : WI) (l : List WI) : (blk (a :: l)).extract 0 18 = a.cells := blk_at _ 0 a rfl
@[simp] theorem blk_x1 (a b : WI) (l : List WI) : (blk (a :: b :: l)).extract 18 36 = b.cells := blk_at _ 1 b rfl
@[simp] theorem blk_x2 (a b c : WI) (l : List WI) : (blk (a :: b :: c :: l)).extract 36 54 = c.cells := blk_at _ 2 c rfl
@[simp] theorem blk_x3 (a b c d : WI) (l : List WI) : (blk (a :: b :: c :: d :: l)).extract 54 72 = d.cells := blk_at _ 3 d rfl
@[simp] theorem blk_x4 (a b c d e : WI) (l : List WI) : (blk (a :: b :: c :: d :: e :: l)).extract 72 90 = e.cells := blk_at _ 4 e rfl
@[simp] theorem blk_x5 (a b c d e f : WI) (l : List WI) : (blk (a :: b :: c :: d :: e :: f :: l)).extract 90 108 = f.cells := blk_at _ 5 f rfl
@[simp] theorem blk_x6 (a b c d e f g : WI) (l : List WI) : (blk (a :: b :: c :: d :: e :: f :: g :: l)).extract 108 126 = g.cells := blk_at _ 6 g rfl
@[simp] theorem blk_s0 (x a : WI) (l : List WI) : splice (blk (a :: l)) 0 x.cells = blk (x :: l) := blk_splice _ 0 x (by simp)
@[simp] theorem blk_s3 (x a b c d : WI) (l : List WI) : splice (blk (a :: b :: c :: d :: l)) 54 x.cells = blk (a :: b :: c :: x :: l) := blk_splice _ 3 x (by simp)
@[simp] theorem blk_s4 (x a b c d e : WI) (l : List WI) : splice (blk (a :: b :: c :: d :: e :: l)) 72 x.cells = blk (a :: b :: c :: d :: x :: l) := blk_splice _ 4 x (by simp)
theorem cellsI_0eq:cellsI false false 0=(WI.of 0).cells:=by
 rw [WI.cells_eq];unfold WI.ng WI.ov WI.sz;rw [WI.of_v (by simpa using lim_pos)];rfl
/-! ### What is built of parts -/
theorem fill_blk (place:Nat→Option (Nat × Nat)) (l:List WI) (k i:Nat) (x:WI) (rest:List (Nat × Value)) (hp:place i=some (18*k,18)) (h:k<l.length) :
  Instr.fill place (blk l) ((i,.agg x.cells) :: rest)=Instr.fill place (blk (l.set k x)) rest:=by
 have hs:x.cells.size=18:=by have:=x.cells_len;rwa [Array.length_toList] at this
 have hf:=foldl_splice (blk l) x.cells (18*k) (by rw [hs,blk_size];omega)
 rw [blk_splice l k x h] at hf
 have hc:¬ (decide ((Value.agg x.cells).cells.size≠18)||decide (18*k+(Value.agg x.cells).cells.size > (blk l).size))=true:=by
  simp only [Value.cells,hs,blk_size];simp;omega
 rw [Instr.fill]
 simp only [hp]
 rw [if_neg hc]
 congr 1
@[go_sem ↓] theorem zero_Info (w : World) : (zeroValue 225).run Tryz.prog w = .ok (.agg (blk [WI.of 0, WI.of 0, WI.of 0, WI.of 0, WI.of 0, WI.of 0, WI.of 0])) w := by
  have h:(blk [WI.of 0,WI.of 0,WI.of 0,WI.of 0,WI.of 0,WI.of 0,WI.of 0])=cellsI false false 0++cellsI false false 0++cellsI false false 0++cellsI false false 0++cellsI false false 0++cellsI false false 0++cellsI false false 0:=by
   rw [cellsI_0eq];apply Array.ext';simp [blk_toList]
  rw [h,cellsI_lit];exact Tryz.zeroValue225 w
@[go_sem ↓] theorem lcf_126 (P : Program) (w : World) (b o : Nat) : (loadCellsFrom ⟨b, o, none⟩ 0 126 #[]).run P w = rowResA (w.row? b o 126) w (lcf P b o 126 w) := lcf_row? w b o 126
theorem info_Info:(Tryz.prog.info? 225).map (·.size)=some 126:=by kernel_rfl
def slcR (P:Program) (t:TypeId) (n:Nat) (parts:Array (Nat × Value)) (w:World):Result Value:=(Instr.buildSlice t n parts).run P w
def bldR (P:Program) (t:TypeId) (parts:Array (Nat × Value)) (w:World):Result Value:=(Instr.build t parts).run P w
@[go_sem ↓] theorem exec_slc4 {P : Program} (ρ : Operand → Value) (dst : Option Tmp) (ty : TypeId) (pos : String) (af : Array Edge) (gd : Option (Nat × Bool)) (a b c d : Operand) (w : World) :
    (execOp ρ ⟨dst,.buildSlice 356 4 #[(0,a),(1,b),(2,c),(3,d)],ty,pos,af,gd⟩).run P w=(slcR P 356 4 #[(0,ρ a),(1,ρ b),(2,ρ c),(3,ρ d)] w).andThen fun v w' => .ok (.value v) w':=by
 simp only [execOp,slcR,Sem.run_bind,Sem.run_pure,List.map_toArray,List.map_cons,List.map_nil]
@[go_sem ↓] theorem exec_bld7 {P : Program} (ρ : Operand → Value) (dst : Option Tmp) (ty : TypeId) (pos : String) (af : Array Edge) (gd : Option (Nat × Bool)) (a b c d e f g : Operand) (w : World) :
    (execOp ρ ⟨dst,.build 225 #[(0,a),(1,b),(2,c),(3,d),(4,e),(5,f),(6,g)],ty,pos,af,gd⟩).run P w=(bldR P 225 #[(0,ρ a),(1,ρ b),(2,ρ c),(3,ρ d),(4,ρ e),(5,ρ f),(6,ρ g)] w).andThen fun v w' => .ok (.value v) w':=by
 simp only [execOp,bldR,Sem.run_bind,Sem.run_pure,List.map_toArray,List.map_cons,List.map_nil]
@[go_sem ↓] theorem exec_bld5 {P : Program} (ρ : Operand → Value) (dst : Option Tmp) (ty : TypeId) (pos : String) (af : Array Edge) (gd : Option (Nat × Bool)) (a b c f g : Operand) (w : World) :
    (execOp ρ ⟨dst,.build 225 #[(0,a),(1,b),(2,c),(5,f),(6,g)],ty,pos,af,gd⟩).run P w=(bldR P 225 #[(0,ρ a),(1,ρ b),(2,ρ c),(5,ρ f),(6,ρ g)] w).andThen fun v w' => .ok (.value v) w':=by
 simp only [execOp,bldR,Sem.run_bind,Sem.run_pure,List.map_toArray,List.map_cons,List.map_nil]
@[go_sem] theorem andThen_okv {α β : Type} (v : α) (w : World) (k : α → World → Result β) : (Result.ok v w).andThen k = k v w := rfl
theorem fill_nil (place:Nat→Option (Nat × Nat)) (c:Array Value):Instr.fill place c []=some c:=by rw [Instr.fill]
theorem size_Int (w:World):(sizeOf 153).run Tryz.prog w = .ok 18 w:=by kernel_rfl
@[go_sem] theorem bld7_run (a b c d e f g : WI) (w : World) : bldR Tryz.prog 225 #[(0, .agg a.cells), (1, .agg b.cells), (2, .agg c.cells), (3, .agg d.cells), (4, .agg e.cells), (5, .agg f.cells), (6, .agg g.cells)] w = .ok (.agg (blk [a, b, c, d, e, f, g])) w := by
  unfold bldR Instr.build
  simp only [Sem.run_bind,zero_Info,Result.andThen_ok,Value.cells,run_underlying Tryz.underlying225]
  generalize hp:Sem.run Tryz.prog (Array.mapM _ _) w=r
  have hr:r = .ok #[(0,18),(18,18),(36,18),(54,18),(72,18),(90,18),(108,18)] w:=by rw [← hp];kernel_rfl
  rw [hr]
  simp only [Result.andThen_ok]
  rw [fill_blk _ _ 0 0 a _ rfl (by simp),
   fill_blk _ _ 1 1 b _ rfl (by simp),
   fill_blk _ _ 2 2 c _ rfl (by simp),
   fill_blk _ _ 3 3 d _ rfl (by simp),
   fill_blk _ _ 4 4 e _ rfl (by simp),
   fill_blk _ _ 5 5 f _ rfl (by simp),
   fill_blk _ _ 6 6 g _ rfl (by simp),fill_nil]
  simp
@[go_sem] theorem bld5_run (a b c f g : WI) (w : World) : bldR Tryz.prog 225 #[(0, .agg a.cells), (1, .agg b.cells), (2, .agg c.cells), (5, .agg f.cells), (6, .agg g.cells)] w = .ok (.agg (blk [a, b, c, WI.of 0, WI.of 0, f, g])) w := by
  unfold bldR Instr.build
  simp only [Sem.run_bind,zero_Info,Result.andThen_ok,Value.cells,run_underlying Tryz.underlying225]
  generalize hp:Sem.run Tryz.prog (Array.mapM _ _) w=r
  have hr:r = .ok #[(0,18),(18,18),(36,18),(54,18),(72,18),(90,18),(108,18)] w:=by rw [← hp];kernel_rfl
  rw [hr]
  simp only [Result.andThen_ok]
  rw [fill_blk _ _ 0 0 a _ rfl (by simp),
   fill_blk _ _ 1 1 b _ rfl (by simp),
   fill_blk _ _ 2 2 c _ rfl (by simp),
   fill_blk _ _ 5 5 f _ rfl (by simp),
   fill_blk _ _ 6 6 g _ rfl (by simp),fill_nil]
  simp
theorem row_four0:(Array.map (fun x=>(Value.agg #[.bool false,.bool false,.int .u64 0,.int .u64 0,.int .u64 0,.int .u64 0,.int .u64 0,.int .u64 0,.int .u64 0,.int .u64 0,.int .u64 0,.int .u64 0,.int .u64 0,.int .u64 0,.int .u64 0,.int .u64 0,.int .u64 0,.int .u64 0]).cells[x%(Value.agg #[.bool false,.bool false,.int .u64 0,.int .u64 0,.int .u64 0,.int .u64 0,.int .u64 0,.int .u64 0,.int .u64 0,.int .u64 0,.int .u64 0,.int .u64 0,.int .u64 0,.int .u64 0,.int .u64 0,.int .u64 0,.int .u64 0,.int .u64 0]).cells.size]!) (Array.range (4*18)))=#[.bool false,.bool false,.int .u64 0,.int .u64 0,.int .u64 0,.int .u64 0,.int .u64 0,.int .u64 0,.int .u64 0,.int .u64 0,.int .u64 0,.int .u64 0,.int .u64 0,.int .u64 0,.int .u64 0,.int .u64 0,.int .u64 0,.int .u64 0]++#[.bool false,.bool false,.int .u64 0,.int .u64 0,.int .u64 0,.int .u64 0,.int .u64 0,.int .u64 0,.int .u64 0,.int .u64 0,.int .u64 0,.int .u64 0,.int .u64 0,.int .u64 0,.int .u64 0,.int .u64 0,.int .u64 0,.int .u64 0]++#[.bool false,.bool false,.int .u64 0,.int .u64 0,.int .u64 0,.int .u64 0,.int .u64 0,.int .u64 0,.int .u64 0,.int .u64 0,.int .u64 0,.int .u64 0,.int .u64 0,.int .u64 0,.int .u64 0,.int .u64 0,.int .u64 0,.int .u64 0]++#[.bool false,.bool false,.int .u64 0,.int .u64 0,.int .u64 0,.int .u64 0,.int .u64 0,.int .u64 0,.int .u64 0,.int .u64 0,.int .u64 0,.int .u64 0,.int .u64 0,.int .u64 0,.int .u64 0,.int .u64 0,.int .u64 0,.int .u64 0]:=by kernel_rfl
theorem row_four:(Array.map (fun x=>(Value.agg (cellsI false false 0)).cells[x%(Value.agg (cellsI false false 0)).cells.size]!) (Array.range (4*18)))=blk [WI.of 0,WI.of 0,WI.of 0,WI.of 0]:=by
 have h:blk [WI.of 0,WI.of 0,WI.of 0,WI.of 0]=cellsI false false 0++cellsI false false 0++cellsI false false 0++cellsI false false 0:=by
  rw [cellsI_0eq];apply Array.ext';simp [blk_toList]
 rw [h,cellsI_lit];exact row_four0
@[go_sem] theorem slc4_run (a b c d : WI) (w : World) : slcR Tryz.prog 356 4 #[(0, .agg a.cells), (1, .agg b.cells), (2, .agg c.cells), (3, .agg d.cells)] w =
    .ok (.slice (some ⟨w.heap.size,0,none⟩) 4 4) (w.alloc (.cells (blk [a,b,c,d]) 153)):=by
 unfold slcR Instr.buildSlice
 simp only [Sem.run_bind,Result.andThen_ok,run_underlying Tryz.underlying356,size_Int]
 rw [if_neg (by decide),if_neg (by decide)]
 simp only [Sem.run_bind,Sem.run_pure,Result.andThen_ok,zero_Int]
 rw [row_four,fill_blk _ _ 0 0 a _ rfl (by simp),fill_blk _ _ 1 1 b _ rfl (by simp),fill_blk _ _ 2 2 c _ rfl (by simp),fill_blk _ _ 3 3 d _ rfl (by simp),fill_nil]
 simp only [newRow,newObj,Sem.run_bind,Sem.run_pure]
 rfl
@[go_sem ↓] theorem exec_slc7 {P : Program} (ρ : Operand → Value) (dst : Option Tmp) (ty : TypeId) (pos : String) (af : Array Edge) (gd : Option (Nat × Bool)) (a b c d e f g : Operand) (w : World) :
    (execOp ρ ⟨dst,.buildSlice 356 7 #[(0,a),(1,b),(2,c),(3,d),(4,e),(5,f),(6,g)],ty,pos,af,gd⟩).run P w=(slcR P 356 7 #[(0,ρ a),(1,ρ b),(2,ρ c),(3,ρ d),(4,ρ e),(5,ρ f),(6,ρ g)] w).andThen fun v w' => .ok (.value v) w':=by
 simp only [execOp,slcR,Sem.run_bind,Sem.run_pure,List.map_toArray,List.map_cons,List.map_nil]
theorem row_z70:(Array.map (fun x=>(Value.agg #[.bool false,.bool false,.int .u64 0,.int .u64 0,.int .u64 0,.int .u64 0,.int .u64 0,.int .u64 0,.int .u64 0,.int .u64 0,.int .u64 0,.int .u64 0,.int .u64 0,.int .u64 0,.int .u64 0,.int .u64 0,.int .u64 0,.int .u64 0]).cells[x%(Value.agg #[.bool false,.bool false,.int .u64 0,.int .u64 0,.int .u64 0,.int .u64 0,.int .u64 0,.int .u64 0,.int .u64 0,.int .u64 0,.int .u64 0,.int .u64 0,.int .u64 0,.int .u64 0,.int .u64 0,.int .u64 0,.int .u64 0,.int .u64 0]).cells.size]!) (Array.range (7*18)))=#[.bool false,.bool false,.int .u64 0,.int .u64 0,.int .u64 0,.int .u64 0,.int .u64 0,.int .u64 0,.int .u64 0,.int .u64 0,.int .u64 0,.int .u64 0,.int .u64 0,.int .u64 0,.int .u64 0,.int .u64 0,.int .u64 0,.int .u64 0]++#[.bool false,.bool false,.int .u64 0,.int .u64 0,.int .u64 0,.int .u64 0,.int .u64 0,.int .u64 0,.int .u64 0,.int .u64 0,.int .u64 0,.int .u64 0,.int .u64 0,.int .u64 0,.int .u64 0,.int .u64 0,.int .u64 0,.int .u64 0]++#[.bool false,.bool false,.int .u64 0,.int .u64 0,.int .u64 0,.int .u64 0,.int .u64 0,.int .u64 0,.int .u64 0,.int .u64 0,.int .u64 0,.int .u64 0,.int .u64 0,.int .u64 0,.int .u64 0,.int .u64 0,.int .u64 0,.int .u64 0]++#[.bool false,.bool false,.int .u64 0,.int .u64 0,.int .u64 0,.int .u64 0,.int .u64 0,.int .u64 0,.int .u64 0,.int .u64 0,.int .u64 0,.int .u64 0,.int .u64 0,.int .u64 0,.int .u64 0,.int .u64 0,.int .u64 0,.int .u64 0]++#[.bool false,.bool false,.int .u64 0,.int .u64 0,.int .u64 0,.int .u64 0,.int .u64 0,.int .u64 0,.int .u64 0,.int .u64 0,.int .u64 0,.int .u64 0,.int .u64 0,.int .u64 0,.int .u64 0,.int .u64 0,.int .u64 0,.int .u64 0]++#[.bool false,.bool false,.int .u64 0,.int .u64 0,.int .u64 0,.int .u64 0,.int .u64 0,.int .u64 0,.int .u64 0,.int .u64 0,.int .u64 0,.int .u64 0,.int .u64 0,.int .u64 0,.int .u64 0,.int .u64 0,.int .u64 0,.int .u64 0]++#[.bool false,.bool false,.int .u64 0,.int .u64 0,.int .u64 0,.int .u64 0,.int .u64 0,.int .u64 0,.int .u64 0,.int .u64 0,.int .u64 0,.int .u64 0,.int .u64 0,.int .u64 0,.int .u64 0,.int .u64 0,.int .u64 0,.int .u64 0]:=by kernel_rfl
theorem row_z7:(Array.map (fun x=>(Value.agg (cellsI false false 0)).cells[x%(Value.agg (cellsI false false 0)).cells.size]!) (Array.range (7*18)))=blk [WI.of 0,WI.of 0,WI.of 0,WI.of 0,WI.of 0,WI.of 0,WI.of 0]:=by
 have h:blk [WI.of 0,WI.of 0,WI.of 0,WI.of 0,WI.of 0,WI.of 0,WI.of 0]=cellsI false false 0++cellsI false false 0++cellsI false false 0++cellsI false false 0++cellsI false false 0++cellsI false false 0++cellsI false false 0:=by
  rw [cellsI_0eq];apply Array.ext';simp [blk_toList]
 rw [h,cellsI_lit];exact row_z70
@[go_sem] theorem slc7_run (a b c d e f g : WI) (w : World) : slcR Tryz.prog 356 7 #[(0, .agg a.cells), (1, .agg b.cells), (2, .agg c.cells), (3, .agg d.cells), (4, .agg e.cells), (5, .agg f.cells), (6, .agg g.cells)] w =
    .ok (.slice (some ⟨w.heap.size,0,none⟩) 7 7) (w.alloc (.cells (blk [a,b,c,d,e,f,g]) 153)):=by
 unfold slcR Instr.buildSlice
 simp only [Sem.run_bind,Result.andThen_ok,run_underlying Tryz.underlying356,size_Int]
 rw [if_neg (by decide),if_neg (by decide)]
 simp only [Sem.run_bind,Sem.run_pure,Result.andThen_ok,zero_Int]
 rw [row_z7,fill_blk _ _ 0 0 a _ rfl (by simp),fill_blk _ _ 1 1 b _ rfl (by simp),fill_blk _ _ 2 2 c _ rfl (by simp),fill_blk _ _ 3 3 d _ rfl (by simp),fill_blk _ _ 4 4 e _ rfl (by simp),fill_blk _ _ 5 5 f _ rfl (by simp),fill_blk _ _ 6 6 g _ rfl (by simp),fill_nil]
 simp only [newRow,newObj,Sem.run_bind,Sem.run_pure]
 rfl
@[go_sem ↓] theorem exec_slc8 {P : Program} (ρ : Operand → Value) (dst : Option Tmp) (ty : TypeId) (pos : String) (af : Array Edge) (gd : Option (Nat × Bool)) (a b c d e f g h : Operand) (w : World) :
    (execOp ρ ⟨dst,.buildSlice 356 8 #[(0,a),(1,b),(2,c),(3,d),(4,e),(5,f),(6,g),(7,h)],ty,pos,af,gd⟩).run P w=(slcR P 356 8 #[(0,ρ a),(1,ρ b),(2,ρ c),(3,ρ d),(4,ρ e),(5,ρ f),(6,ρ g),(7,ρ h)] w).andThen fun v w' => .ok (.value v) w':=by
 simp only [execOp,slcR,Sem.run_bind,Sem.run_pure,List.map_toArray,List.map_cons,List.map_nil]
theorem row_z80:(Array.map (fun x=>(Value.agg #[.bool false,.bool false,.int .u64 0,.int .u64 0,.int .u64 0,.int .u64 0,.int .u64 0,.int .u64 0,.int .u64 0,.int .u64 0,.int .u64 0,.int .u64 0,.int .u64 0,.int .u64 0,.int .u64 0,.int .u64 0,.int .u64 0,.int .u64 0]).cells[x%(Value.agg #[.bool false,.bool false,.int .u64 0,.int .u64 0,.int .u64 0,.int .u64 0,.int .u64 0,.int .u64 0,.int .u64 0,.int .u64 0,.int .u64 0,.int .u64 0,.int .u64 0,.int .u64 0,.int .u64 0,.int .u64 0,.int .u64 0,.int .u64 0]).cells.size]!) (Array.range (8*18)))=#[.bool false,.bool false,.int .u64 0,.int .u64 0,.int .u64 0,.int .u64 0,.int .u64 0,.int .u64 0,.int .u64 0,.int .u64 0,.int .u64 0,.int .u64 0,.int .u64 0,.int .u64 0,.int .u64 0,.int .u64 0,.int .u64 0,.int .u64 0]++#[.bool false,.bool false,.int .u64 0,.int .u64 0,.int .u64 0,.int .u64 0,.int .u64 0,.int .u64 0,.int .u64 0,.int .u64 0,.int .u64 0,.int .u64 0,.int .u64 0,.int .u64 0,.int .u64 0,.int .u64 0,.int .u64 0,.int .u64 0]++#[.bool false,.bool false,.int .u64 0,.int .u64 0,.int .u64 0,.int .u64 0,.int .u64 0,.int .u64 0,.int .u64 0,.int .u64 0,.int .u64 0,.int .u64 0,.int .u64 0,.int .u64 0,.int .u64 0,.int .u64 0,.int .u64 0,.int .u64 0]++#[.bool false,.bool false,.int .u64 0,.int .u64 0,.int .u64 0,.int .u64 0,.int .u64 0,.int .u64 0,.int .u64 0,.int .u64 0,.int .u64 0,.int .u64 0,.int .u64 0,.int .u64 0,.int .u64 0,.int .u64 0,.int .u64 0,.int .u64 0]++#[.bool false,.bool false,.int .u64 0,.int .u64 0,.int .u64 0,.int .u64 0,.int .u64 0,.int .u64 0,.int .u64 0,.int .u64 0,.int .u64 0,.int .u64 0,.int .u64 0,.int .u64 0,.int .u64 0,.int .u64 0,.int .u64 0,.int .u64 0]++#[.bool false,.bool false,.int .u64 0,.int .u64 0,.int .u64 0,.int .u64 0,.int .u64 0,.int .u64 0,.int .u64 0,.int .u64 0,.int .u64 0,.int .u64 0,.int .u64 0,.int .u64 0,.int .u64 0,.int .u64 0,.int .u64 0,.int .u64 0]++#[.bool false,.bool false,.int .u64 0,.int .u64 0,.int .u64 0,.int .u64 0,.int .u64 0,.int .u64 0,.int .u64 0,.int .u64 0,.int .u64 0,.int .u64 0,.int .u64 0,.int .u64 0,.int .u64 0,.int .u64 0,.int .u64 0,.int .u64 0]++#[.bool false,.bool false,.int .u64 0,.int .u64 0,.int .u64 0,.int .u64 0,.int .u64 0,.int .u64 0,.int .u64 0,.int .u64 0,.int .u64 0,.int .u64 0,.int .u64 0,.int .u64 0,.int .u64 0,.int .u64 0,.int .u64 0,.int .u64 0]:=by kernel_rfl
theorem row_z8:(Array.map (fun x=>(Value.agg (cellsI false false 0)).cells[x%(Value.agg (cellsI false false 0)).cells.size]!) (Array.range (8*18)))=blk [WI.of 0,WI.of 0,WI.of 0,WI.of 0,WI.of 0,WI.of 0,WI.of 0,WI.of 0]:=by
 have h:blk [WI.of 0,WI.of 0,WI.of 0,WI.of 0,WI.of 0,WI.of 0,WI.of 0,WI.of 0]=cellsI false false 0++cellsI false false 0++cellsI false false 0++cellsI false false 0++cellsI false false 0++cellsI false false 0++cellsI false false 0++cellsI false false 0:=by
  rw [cellsI_0eq];apply Array.ext';simp [blk_toList]
 rw [h,cellsI_lit];exact row_z80
@[go_sem] theorem slc8_run (a b c d e f g h : WI) (w : World) : slcR Tryz.prog 356 8 #[(0, .agg a.cells), (1, .agg b.cells), (2, .agg c.cells), (3, .agg d.cells), (4, .agg e.cells), (5, .agg f.cells), (6, .agg g.cells), (7, .agg h.cells)] w =
    .ok (.slice (some ⟨w.heap.size,0,none⟩) 8 8) (w.alloc (.cells (blk [a,b,c,d,e,f,g,h]) 153)):=by
 unfold slcR Instr.buildSlice
 simp only [Sem.run_bind,Result.andThen_ok,run_underlying Tryz.underlying356,size_Int]
 rw [if_neg (by decide),if_neg (by decide)]
 simp only [Sem.run_bind,Sem.run_pure,Result.andThen_ok,zero_Int]
 rw [row_z8,fill_blk _ _ 0 0 a _ rfl (by simp),fill_blk _ _ 1 1 b _ rfl (by simp),fill_blk _ _ 2 2 c _ rfl (by simp),fill_blk _ _ 3 3 d _ rfl (by simp),fill_blk _ _ 4 4 e _ rfl (by simp),fill_blk _ _ 5 5 f _ rfl (by simp),fill_blk _ _ 6 6 g _ rfl (by simp),fill_blk _ _ 7 7 h _ rfl (by simp),fill_nil]
 simp only [newRow,newObj,Sem.run_bind,Sem.run_pure]
 rfl
theorem row_lt {w:World} {b o n:Nat} {cs:Array Value} (h:w.row? b o n=some cs):b<w.heap.size:=by
 unfold World.row? at h
 split at h
 ·rename_i c t fr hb;exact heap_lt hb
 ·cases h
theorem inw_row {w:World} {b o n:Nat} {cs:Array Value} (h:w.row? b o n=some cs) {fr:Nat→Option Fresh} {g:Nat→Nat} {N:List Nat} (p:Inw w.drew fr g N):p.w.row? b o n=some cs:=by
 have hb:Below w.heap.size w p.w:=⟨p.low.os,p.low.tape,p.low.output,p.low.size,p.low.block⟩
 rw [Below.row? hb b o n (row_lt h)];exact h
def sum4 (a b c d:WI):WI:=((WI.of 0).add (a.mul b)).add (c.mul d)
def sumAt (a b c d:WI) (k:Nat):WI:=if k=0 then WI.of 0 else if k=1 then (WI.of 0).add (a.mul b) else sum4 a b c d
theorem sum4_c (a b c d:WI) (g:Nat) (w:World) (hg:w.heap[g]? = some (.cells (blk [a,b,c,d]) 153 (0,0))) :
  Calls Tryz.prog 212 #[.slice (some ⟨g,0,none⟩) 4 4] w fun e w'=>e = .returned (.agg (sum4 a b c d).cells)∧Below w.heap.size w w':=by
 have HG:Hid (Blk w g (blk [a,b,c,d]) 153):=hg
 have lg:=HG.out.lt
 clear hg
 go_enter Tryz.func212,Tryz.ntmps212
 go_wp2
 go_loopw [4] (fun i wr=>∃ k:Nat,k≤2∧i = .int .i64 (2*k:Nat)∧Hid (Below w.heap.size w wr)∧Hid (Blk wr (w.heap.size+1) (sumAt a b c d k).cells 153)∧Hid (Blk wr w.heap.size (WI.of 0).cells 153)) (fun i _=>4-(intOf i).toNat)
 case atStart =>
  refine ⟨0,by omega,rfl,(show Below _ _ _ from below_byR),?_,?_⟩
  ·show Blk _ _ (WI.of 0).cells _;rw [← cellsI_0eq];exact Blk.new' _ _ _ (by simp)
  ·rw [← cellsI_0eq];exact (Blk.new _ _ _).alloc _
 case round =>
  obtain ⟨k,hk,rfl,HB,H1,H0⟩:=hrel
  rcases k with _|_|_|k
  ·have g1:wr.row? (w.heap.size+1) 0 18=some (WI.of 0).cells:=H1.out.row?_all 18 (by simp)
   have g2:wr.row? g 0 18=some a.cells:=by rw [(HG.out.keep HB.out).row? 0 18 (by simp)];simp
   have g3:wr.row? g 18 18=some b.cells:=by rw [(HG.out.keep HB.out).row? 18 18 (by simp)];simp
   have f1:=@inw_row _ _ _ _ _ g1
   have f2:=@inw_row _ _ _ _ _ g2
   have f3:=@inw_row _ _ _ _ _ g3
   go_wp2
   refine wp_region_fresh' 12 (fun _=>none) (fun _=>[]) (by kernel_rfl) (by kernel_rfl) ?_;refine ex_list ?_;apply Exists.intro;refine ex_list ?_;apply Exists.intro;refine ex_list ?_;apply Exists.intro;refine ex_list ?_;apply Exists.intro;refine ex_list ?_;apply Exists.intro;refine ex_list ?_;apply Exists.intro;refine ex_list ?_;apply Exists.intro;refine ex_list ?_;apply Exists.intro;refine ex_list ?_;apply Exists.intro;refine ex_list ?_;apply Exists.intro;refine ex_list ?_;apply Exists.intro;refine ex_list ?_;apply Exists.intro;refine ⟨[],fun gg NN hN=>?_⟩;simp only [List.take_succ_cons,List.take_zero,List.drop_succ_cons,List.drop_zero];(repeat (refine lexF_quiet rfl ?_;go_big_quiet_step (first|exact rfl|(first|exact calls_in (mul_I _ _ _)|exact calls_in (add_I _ _ _)));refine wpQuiet_nil ⟨rfl,?_⟩))
   refine lexF_nil ?_
   intro w' hb _ _
   have hb':Below wr.heap.size wr w':=hb
   have B1:=Lib.hid (H1.out.keep hb')
   have B0:=Lib.hid (H0.out.keep hb')
   have hp:w'.put? (w.heap.size+1) 0 ((WI.of 0).add (a.mul b)).cells=some (w'.putRow (w.heap.size+1) 0 ((WI.of 0).add (a.mul b)).cells):=B1.out.put? 0 _ (by simp) (by simp)
   go_wp2
   refine ⟨⟨1,by omega,rfl,?_,?_,?_⟩,by simp [intOf]⟩
   ·exact Below_putRow (Below.trans HB.out (hb'.mono HB.out.size)) (by omega) _ _
   ·exact (B1.out.putRow_same 0 _).of_eq (by rw [splice_all _ _ (by simp)];rfl)
   ·exact B0.out.putRow_other (by omega) 0 _
  ·have g1:wr.row? (w.heap.size+1) 0 18=some ((WI.of 0).add (a.mul b)).cells:=H1.out.row?_all 18 (by simp)
   have g2:wr.row? g 36 18=some c.cells:=by rw [(HG.out.keep HB.out).row? 36 18 (by simp)];simp
   have g3:wr.row? g 54 18=some d.cells:=by rw [(HG.out.keep HB.out).row? 54 18 (by simp)];simp
   have f1:=@inw_row _ _ _ _ _ g1
   have f2:=@inw_row _ _ _ _ _ g2
   have f3:=@inw_row _ _ _ _ _ g3
   go_wp2
   refine wp_region_fresh' 12 (fun _=>none) (fun _=>[]) (by kernel_rfl) (by kernel_rfl) ?_;refine ex_list ?_;apply Exists.intro;refine ex_list ?_;apply Exists.intro;refine ex_list ?_;apply Exists.intro;refine ex_list ?_;apply Exists.intro;refine ex_list ?_;apply Exists.intro;refine ex_list ?_;apply Exists.intro;refine ex_list ?_;apply Exists.intro;refine ex_list ?_;apply Exists.intro;refine ex_list ?_;apply Exists.intro;refine ex_list ?_;apply Exists.intro;refine ex_list ?_;apply Exists.intro;refine ex_list ?_;apply Exists.intro;refine ⟨[],fun gg NN hN=>?_⟩;simp only [List.take_succ_cons,List.take_zero,List.drop_succ_cons,List.drop_zero];(repeat (refine lexF_quiet rfl ?_;go_big_quiet_step (first|exact rfl|(first|exact calls_in (mul_I _ _ _)|exact calls_in (add_I _ _ _)));refine wpQuiet_nil ⟨rfl,?_⟩))
   refine lexF_nil ?_
   intro w' hb _ _
   have hb':Below wr.heap.size wr w':=hb
   have B1:=Lib.hid (H1.out.keep hb')
   have B0:=Lib.hid (H0.out.keep hb')
   have hp:w'.put? (w.heap.size+1) 0 (((WI.of 0).add (a.mul b)).add (c.mul d)).cells=some (w'.putRow (w.heap.size+1) 0 (((WI.of 0).add (a.mul b)).add (c.mul d)).cells):=B1.out.put? 0 _ (by simp) (by simp)
   go_wp2
   refine ⟨⟨2,by omega,rfl,?_,?_,?_⟩,by simp [intOf]⟩
   ·exact Below_putRow (Below.trans HB.out (hb'.mono HB.out.size)) (by omega) _ _
   ·exact (B1.out.putRow_same 0 _).of_eq (by rw [splice_all _ _ (by simp)];rfl)
   ·exact B0.out.putRow_other (by omega) 0 _
  ·have g1:wr.row? (w.heap.size+1) 0 18=some (sum4 a b c d).cells:=H1.out.row?_all 18 (by simp)
   have hp:wr.put? w.heap.size 0 (sum4 a b c d).cells=some (wr.putRow w.heap.size 0 (sum4 a b c d).cells):=H0.out.put? 0 _ (by simp) (by simp)
   have g2:=row_put hp (n:=18) (by simp)
   go_wp2
   exact bodyPost_row 18 (sum4 a b c d).cells rfl rfl rfl Tryz.underlying153 rfl info_Int g2 ⟨rfl,Below_putRow HB.out (Nat.le_refl _) _ _⟩
  ·omega
structure Iq where
 A:Int
 B:Int
 D:Int
 U:Int
 V:Int
 Z:Int
 N:Int
def Iq.ws (i:Iq):List WI:=[WI.of i.A,WI.of i.B,WI.of i.D,WI.of i.U,WI.of i.V,WI.of i.Z,WI.of i.N]
def Iq.zero:Iq:=⟨0,0,0,0,0,0,0⟩
abbrev iqV (i:Iq):Value := .agg (blk i.ws)
theorem sum4_of {j:Nat} (a b c d:Int) (ha:Sm j a) (hb:Sm j b) (hc:Sm j c) (hd:Sm j d) (hj:j≤500):sum4 (WI.of a) (WI.of b) (WI.of c) (WI.of d)=WI.of (a*b+c*d):=by
 unfold sum4
 have h1:=ha.mul hb
 have h2:=hc.mul hd
 rw [WI.of_mul (ha.lim (by omega)) (hb.lim (by omega)),WI.of_mul (hc.lim (by omega)) (hd.lim (by omega)),
  WI.of_add (by simpa using lim_pos) (h1.lim (by omega)),Int.zero_add,WI.of_add (h1.lim (by omega)) (h2.lim (by omega))]
def ofEl (e:El):Iq:=⟨e.d,-e.b,e.a,e.d*e.x + -e.b*e.y,-e.b*e.x+e.a*e.y,e.d*(e.x*e.x)+e.a*(e.y*e.y)+(-e.b*(e.x*e.y) + -e.b*(e.x*e.y)),e.a*e.d-e.b*e.b⟩
def ofE (e:El):Iq × Int:=if e.may=true then (ofEl e,0) else (Iq.zero,1)
theorem adj_v (a b d a' b' d':Int) (h:adjV a b d=symV a' b' d') (w:World) :
  Calls Tryz.prog 210 #[symV a b d] w fun e w'=>e = .returned (symV a' b' d')∧Below w.heap.size w w':=by
 rw [← h];exact adj_c a b d w
theorem infoOf_main (x y a b d:Int) (he:El.may ⟨x,y,a,b,d⟩=true) (w:World) :
  Calls Tryz.prog 159 #[elC x y a b d] w fun e w'=>e = .returned (.tuple #[iqV (ofEl ⟨x,y,a,b,d⟩),.int .i64 0])∧Below w.heap.size w w':=by
 have m:=(El.may_iff _).1 he
 simp only at m
 obtain ⟨⟨m1,m2,m3,m4⟩,⟨m5,m6,m7,m8,m9,m10⟩,-⟩:=m
 have HE:=Lib.hid he
 obtain ⟨b',hb'⟩:∃ b',b' = -b:=⟨_,rfl⟩
 have HA:Hid (adjV a b d=symV d b' a):=by show _=_;unfold adjV;rw [if_pos (El.may_mat _ he),hb']
 have K:Hid (I64 x∧I64 y∧I64 a∧I64 b∧I64 d∧I64 b'):=by unfold Hid I64;omega
 have E1:Hid (sum4 (WI.of d) (WI.of x) (WI.of b') (WI.of y)=WI.of (d*x+b'*y)):=sum4_of (j:=63) _ _ _ _ (Sm.of64 (by omega) (by omega)) (Sm.of64 (by omega) (by omega)) (Sm.of64 (by omega) (by omega)) (Sm.of64 (by omega) (by omega)) (by decide)
 have E2:Hid (sum4 (WI.of b') (WI.of x) (WI.of a) (WI.of y)=WI.of (b'*x+a*y)):=sum4_of (j:=63) _ _ _ _ (Sm.of64 (by omega) (by omega)) (Sm.of64 (by omega) (by omega)) (Sm.of64 (by omega) (by omega)) (Sm.of64 (by omega) (by omega)) (by decide)
 have EF:Hid ((ofEl ⟨x,y,a,b,d⟩).ws = [WI.of d,WI.of b',WI.of a,WI.of (d*x+b'*y),WI.of (b'*x+a*y),WI.of (d*(x*x)+a*(y*y)+(b'*(x*y)+b'*(x*y))),WI.of (a*d-b*b)]):=by
  show _=_;rw [hb'];rfl
 clear he hb' m1 m2 m3 m4 m5 m6 m7 m8 m9 m10
 go_enter Tryz.func159,Tryz.ntmps159
 go_wp2_with fail
 refine (ellmay_c _ _ _ _ _ _).mono ?_;rintro e w1 ⟨rfl,hb1⟩;rw [HE.out];have z_w1:=hb1.size;(try simp at z_w1);obtain ⟨yw1aa,cw1aa,fw1aa,rw1aa,tw1aa,pw1aa⟩:=bq hb1 (w.heap.size);obtain ⟨yw1ab,cw1ab,fw1ab,rw1ab,tw1ab,pw1ab⟩:=bq hb1 (w.heap.size+1)
 go_wp2_with fail
 refine (adj_v _ _ _ _ _ _ HA.out _).mono ?_;rintro e w2 ⟨rfl,hb2⟩;have z_w2:=hb2.size;(try simp at z_w2);obtain ⟨yw2aa,cw2aa,fw2aa,rw2aa,tw2aa,pw2aa⟩:=bq hb2 (w.heap.size);obtain ⟨yw2ab,cw2ab,fw2ab,rw2ab,tw2ab,pw2ab⟩:=bq hb2 (w.heap.size+1)
 go_wp2_with fail
 obtain ⟨w3,hw3⟩:∃ w3,w3=w2.alloc (Obj.cells #[.int .i64 d,.int .i64 b',.int .i64 a] 33):=⟨_,rfl⟩
 rw [← hw3]
 have hb3:Below w2.heap.size w2 w3:=by rw [hw3];exact below_byR
 have z_w3:=hb3.size;(try simp at z_w3);obtain ⟨yw3aa,cw3aa,fw3aa,rw3aa,tw3aa,pw3aa⟩:=bq hb3 (w.heap.size);obtain ⟨yw3ab,cw3ab,fw3ab,rw3ab,tw3ab,pw3ab⟩:=bq hb3 (w.heap.size+1)
 have B4:Hid (Blk w3 w2.heap.size #[.int .i64 d,.int .i64 b',.int .i64 a] 33):=by rw [hw3];exact Blk.new _ _ _
 clear hw3
 have c0:=@inw_cell _ _ _ (show w3.cell? ⟨w.heap.size,0,none⟩=some (.int .i64 x) from (by go_simp));have c1:=@inw_cell _ _ _ (show w3.cell? ⟨w.heap.size,1,none⟩=some (.int .i64 y) from (by go_simp));have c2:=@inw_cell _ _ _ (show w3.cell? ⟨w.heap.size,2,none⟩=some (.int .i64 a) from (by go_simp));have c3:=@inw_cell _ _ _ (show w3.cell? ⟨w.heap.size,3,none⟩=some (.int .i64 b) from (by go_simp));have c4:=@inw_cell _ _ _ (show w3.cell? ⟨w.heap.size,4,none⟩=some (.int .i64 d) from (by go_simp))
 go_cut [5,6] from 7 (fun s5 s6 wc=>∃ g h,s5 = .pointer (some ⟨g,0,none⟩)∧s6 = .pointer (some ⟨h,0,none⟩)∧w3.heap.size≤g∧w3.heap.size≤h∧wc.row? g 0 18=some (WI.of x).cells∧wc.row? h 0 18=some (WI.of y).cells∧Hid (Below w3.heap.size w3 wc))
 case first =>
  refine wp_region_fresh' 10 (fun k=>match k with|8=>some ⟨.cells (cellsI false false 0) 153,fun g => .pointer (some ⟨g,0,none⟩)⟩|9=>some ⟨.cells (cellsI false false 0) 153,fun g => .pointer (some ⟨g,0,none⟩)⟩|_=>none) (fun _=>[]) (by kernel_rfl) (by kernel_rfl) ?_;refine ex_list ?_;apply Exists.intro;refine ex_list ?_;apply Exists.intro;refine ex_list ?_;apply Exists.intro;refine ex_list ?_;apply Exists.intro;refine ex_list ?_;apply Exists.intro;refine ex_list ?_;apply Exists.intro;refine ex_list ?_;apply Exists.intro;refine ex_list ?_;apply Exists.intro;refine ex_list ⟨undef,?_⟩;refine ex_list ⟨undef,?_⟩;refine ⟨[],fun gg NN hN=>?_⟩;simp only [List.take_succ_cons,List.take_zero,List.drop_succ_cons,List.drop_zero];(repeat (first|(refine lexF_quiet rfl ?_;go_big_quiet_step (first|exact rfl|(exact calls_in (of_c _ (by first|exact K.out.1.1|exact K.out.2.1.1) (by first|exact K.out.1.2|exact K.out.2.1.2) _)));refine wpQuiet_nil ⟨rfl,?_⟩)|(refine lexF_fresh _ (by rfl) (by rfl) ?hex ?_;(case hex=>(intro wx;first|(go_simp;done)|(go_simp;rfl)));simp only [Act.put,List.setIfInBounds_toArray,List.set_cons_succ,List.set_cons_zero])))
  refine lexF_nil ?_
  intro w4 hb4' hh hd
  have hb4:Below w3.heap.size w3 w4:=hb4'
  obtain ⟨l8,e8⟩:=hh 8 _ (by decide) rfl
  obtain ⟨l9,e9⟩:=hh 9 _ (by decide) rfl
  have ne:gg 8≠gg 9:=hd 8 9 (by decide) (by decide) rfl rfl (by decide)
  clear hh hd hb4'
  have G8:Hid (Blk w4 (gg 8) (cellsI false false 0) 153):=e8
  have G9:Hid (Blk w4 (gg 9) (cellsI false false 0) 153):=e9
  have hp8:w4.put? (gg 8) 0 (WI.of x).cells=some (w4.putRow (gg 8) 0 (WI.of x).cells):=G8.out.put? 0 _ (by simp) (by simp)
  have hp9:(w4.putRow (gg 8) 0 (WI.of x).cells).put? (gg 9) 0 (WI.of y).cells=some ((w4.putRow (gg 8) 0 (WI.of x).cells).putRow (gg 9) 0 (WI.of y).cells):=(G9.out.putRow_other (Ne.symm ne) 0 _).put? 0 _ (by simp) (by simp)
  clear e8 e9
  go_wp2_with fail
  go_meet
  refine ⟨gg 8,gg 9,rfl,rfl,l8,l9,?_,?_,?_⟩
  ·rw [((G8.out.putRow_same 0 (WI.of x).cells).putRow_other ne 0 _).row? 0 18 (by simp)];simp
  ·rw [((G9.out.putRow_other (Ne.symm ne) 0 (WI.of x).cells).putRow_same 0 _).row? 0 18 (by simp)];simp
  ·exact Below_putRow (Below_putRow hb4 l8 _ _) l9 _ _
 case rest =>
  obtain ⟨g5,g6,rfl,rfl,l5,l6,r5,r6,HB4⟩:=hcut
  have hb4:=HB4.out
  have z_wc:=hb4.size;(try simp at z_wc);obtain ⟨y_wc_0_0,c_wc_0_0,f_wc_0_0,r_wc_0_0,t_wc_0_0,p_wc_0_0⟩:=bq hb4 (w.heap.size);obtain ⟨y_wc_0_1,c_wc_0_1,f_wc_0_1,r_wc_0_1,t_wc_0_1,p_wc_0_1⟩:=bq hb4 (w.heap.size+1)
  have B5:=Lib.hid (B4.out.keep hb4)
  have e0:=@inw_cell _ _ _ (show wc.cell? ⟨w.heap.size,0,none⟩=some (.int .i64 x) from (by go_simp));have e1:=@inw_cell _ _ _ (show wc.cell? ⟨w.heap.size,1,none⟩=some (.int .i64 y) from (by go_simp));have e2:=@inw_cell _ _ _ (show wc.cell? ⟨w.heap.size,2,none⟩=some (.int .i64 a) from (by go_simp));have e3:=@inw_cell _ _ _ (show wc.cell? ⟨w.heap.size,3,none⟩=some (.int .i64 b) from (by go_simp));have e4:=@inw_cell _ _ _ (show wc.cell? ⟨w.heap.size,4,none⟩=some (.int .i64 d) from (by go_simp))
  have t0:=@inw_cell _ _ _ (B5.out.cell (i:=0) rfl)
  have t1:=@inw_cell _ _ _ (B5.out.cell (i:=1) rfl)
  have t2:=@inw_cell _ _ _ (B5.out.cell (i:=2) rfl)
  go_wp2_with fail
  go_cut [7] from 8 (fun s7 wd=>∃ g7,s7 = .pointer (some ⟨g7,0,none⟩)∧wc.heap.size≤g7∧Hid (Blk wd g7 (blk [WI.of d,WI.of b',WI.of a,WI.of 0,WI.of 0,WI.of (d*(x*x)+a*(y*y)+(b'*(x*y)+b'*(x*y))),WI.of (a*d-b*b)]) 225)∧Hid (Below wc.heap.size wc wd))
  case first =>
   refine wp_region_fresh' 18 (fun k=>match k with|17=>some ⟨.cells (blk [WI.of 0,WI.of 0,WI.of 0,WI.of 0,WI.of 0,WI.of 0,WI.of 0]) 225,fun g => .pointer (some ⟨g,0,none⟩)⟩|_=>none) (fun _=>[]) (by kernel_rfl) (by kernel_rfl) ?_;refine ex_list ?_;apply Exists.intro;refine ex_list ?_;apply Exists.intro;refine ex_list ?_;apply Exists.intro;refine ex_list ?_;apply Exists.intro;refine ex_list ?_;apply Exists.intro;refine ex_list ?_;apply Exists.intro;refine ex_list ?_;apply Exists.intro;refine ex_list ?_;apply Exists.intro;refine ex_list ?_;apply Exists.intro;refine ex_list ?_;apply Exists.intro;refine ex_list ?_;apply Exists.intro;refine ex_list ?_;apply Exists.intro;refine ex_list ?_;apply Exists.intro;refine ex_list ?_;apply Exists.intro;refine ex_list ?_;apply Exists.intro;refine ex_list ?_;apply Exists.intro;refine ex_list ?_;apply Exists.intro;refine ex_list ⟨undef,?_⟩;refine ⟨[],fun gg NN hN=>?_⟩;simp only [List.take_succ_cons,List.take_zero,List.drop_succ_cons,List.drop_zero];(repeat (first|(refine lexF_quiet rfl ?_;go_big_quiet_step (first|exact rfl|(first|exact calls_in (of_c _ (by first|exact K.out.2.2.1.1|exact K.out.2.2.2.2.1.1|exact K.out.2.2.2.2.2.1) (by first|exact K.out.2.2.1.2|exact K.out.2.2.2.2.1.2|exact K.out.2.2.2.2.2.2) _)|exact calls_in (quad_c d b' a x y K.out.2.2.2.2.1 K.out.2.2.2.2.2 K.out.2.2.1 K.out.1 K.out.2.1 _)|exact calls_in (matdet_c a b d K.out.2.2.1 K.out.2.2.2.1 K.out.2.2.2.2.1 _)));refine wpQuiet_nil ⟨rfl,?_⟩)|(refine lexF_fresh _ (by rfl) (by rfl) ?hex ?_;(case hex=>(intro wx;first|(go_simp;done)|(go_simp;rfl)));simp only [Act.put,List.setIfInBounds_toArray,List.set_cons_succ,List.set_cons_zero])))
   refine lexF_nil ?_
   intro w5 hb5' hh _
   have hb5:Below wc.heap.size wc w5:=hb5'
   obtain ⟨l17,e17⟩:=hh 17 _ (by decide) rfl
   clear hh hb5'
   have G17:Hid (Blk w5 (gg 17) (blk [WI.of 0,WI.of 0,WI.of 0,WI.of 0,WI.of 0,WI.of 0,WI.of 0]) 225):=e17
   obtain ⟨L,hL⟩:∃ L,L = [WI.of d,WI.of b',WI.of a,WI.of 0,WI.of 0,WI.of (d*(x*x)+a*(y*y)+(b'*(x*y)+b'*(x*y))),WI.of (a*d-b*b)]:=⟨_,rfl⟩
   have hl:L.length=7:=by rw [hL];rfl
   rw [← hL]
   have HL:=Lib.hid hL
   clear hL
   have hp:w5.put? (gg 17) 0 (blk L)=some (w5.putRow (gg 17) 0 (blk L)):=G17.out.put? 0 _ (by simp [hl]) (by simp)
   clear e17
   go_wp2_with fail
   go_meet
   rw [← HL.out]
   exact ⟨gg 17,rfl,l17,(G17.out.putRow_same 0 _).of_eq (splice_all _ _ (by simp [hl])),Below_putRow hb5 l17 _ _⟩
  case rest =>
   obtain ⟨g7,rfl,l7,H7,HBD⟩:=hcut
   have hbd:=HBD.out
   have z_wd:=hbd.size;(try simp at z_wd);obtain ⟨y_wd_0_0,c_wd_0_0,f_wd_0_0,r_wd_0_0,t_wd_0_0,p_wd_0_0⟩:=bq hbd (w.heap.size);obtain ⟨y_wd_0_1,c_wd_0_1,f_wd_0_1,r_wd_0_1,t_wd_0_1,p_wd_0_1⟩:=bq hbd (w.heap.size+1)
   have s5:=@inw_row _ _ _ _ _ ((Below.row? hbd g5 0 18 (row_lt r5)).trans r5)
   have s6:=@inw_row _ _ _ _ _ ((Below.row? hbd g6 0 18 (row_lt r6)).trans r6)
   have q0:=@inw_row _ _ _ _ _ ((H7.out.row? 0 18 (by simp)).trans (congrArg some (blk_x0 _ _)))
   have q1:=@inw_row _ _ _ _ _ ((H7.out.row? 18 18 (by simp)).trans (congrArg some (blk_x1 _ _ _)))
   have q2:=@inw_row _ _ _ _ _ ((H7.out.row? 36 18 (by simp)).trans (congrArg some (blk_x2 _ _ _ _)))
   go_wp2_with fail
   refine wp_region_fresh' 17 (fun k=>match k with|6=>some ⟨.cells (blk [WI.of d,WI.of x,WI.of b',WI.of y]) 153,fun g => .slice (some ⟨g,0,none⟩) 4 4⟩|14=>some ⟨.cells (blk [WI.of b',WI.of x,WI.of a,WI.of y]) 153,fun g => .slice (some ⟨g,0,none⟩) 4 4⟩|_=>none) (fun k=>match k with|7=>[6]|15=>[14]|_=>[]) (by kernel_rfl) (by kernel_rfl) ?_;refine ex_list ?_;apply Exists.intro;refine ex_list ?_;apply Exists.intro;refine ex_list ?_;apply Exists.intro;refine ex_list ?_;apply Exists.intro;refine ex_list ?_;apply Exists.intro;refine ex_list ?_;apply Exists.intro;refine ex_list ⟨undef,?_⟩;refine ex_list ?_;apply Exists.intro;refine ex_list ?_;apply Exists.intro;refine ex_list ?_;apply Exists.intro;refine ex_list ?_;apply Exists.intro;refine ex_list ?_;apply Exists.intro;refine ex_list ?_;apply Exists.intro;refine ex_list ?_;apply Exists.intro;refine ex_list ⟨undef,?_⟩;refine ex_list ?_;apply Exists.intro;refine ex_list ?_;apply Exists.intro;refine ⟨[],fun gg NN hN=>?_⟩;simp only [List.take_succ_cons,List.take_zero,List.drop_succ_cons,List.drop_zero];(repeat (first|(refine lexF_quiet rfl ?_;go_big_quiet_step (first|exact rfl|(rename_i px;first|exact calls_in (sum4_c _ _ _ _ _ _ (px.has 6 (hN 7 6 (by simp)) _ rfl).2)|exact calls_in (sum4_c _ _ _ _ _ _ (px.has 14 (hN 15 14 (by simp)) _ rfl).2)));refine wpQuiet_nil ⟨rfl,?_⟩)|(refine lexF_fresh _ (by rfl) (by rfl) ?hex ?_;(case hex=>(intro wx;first|(go_simp;done)|(go_simp;rfl)));simp only [Act.put,List.setIfInBounds_toArray,List.set_cons_succ,List.set_cons_zero])))
   refine lexF_nil ?_
   intro w6 hb6' hh hd
   clear hh hd
   have hb6:Below wc.heap.size wc w6:=hb6'
   clear hb6'
   have z_w6:=hb6.size;(try simp at z_w6);obtain ⟨yw6aa,cw6aa,fw6aa,rw6aa,tw6aa,pw6aa⟩:=bq hb6 (w.heap.size);obtain ⟨yw6ab,cw6ab,fw6ab,rw6ab,tw6ab,pw6ab⟩:=bq hb6 (w.heap.size+1)
   have F6:w6.fits (w.heap.size+1) 126=true:=by go_simp
   have B7:=Lib.hid (H7.out.keep hb6)
   have n7:w.heap.size+1≠g7:=by omega
   have hpU:=B7.out.put? 54 (sum4 (WI.of d) (WI.of x) (WI.of b') (WI.of y)).cells (by simp) (by simp)
   have B8:=Lib.hid ((B7.out.putRow_same 54 (sum4 (WI.of d) (WI.of x) (WI.of b') (WI.of y)).cells).of_eq (blk_s3 _ _ _ _ _ _))
   have hpV:=B8.out.put? 72 (sum4 (WI.of b') (WI.of x) (WI.of a) (WI.of y)).cells (by simp) (by simp)
   have B9:=Lib.hid ((B8.out.putRow_same 72 (sum4 (WI.of b') (WI.of x) (WI.of a) (WI.of y)).cells).of_eq (blk_s4 _ _ _ _ _ _ _))
   have r9:=B9.out.row?_all 126 (by simp)
   have F9:((w6.putRow g7 54 (sum4 (WI.of d) (WI.of x) (WI.of b') (WI.of y)).cells).putRow g7 72 (sum4 (WI.of b') (WI.of x) (WI.of a) (WI.of y)).cells).fits (w.heap.size+1) 126=true:=by
    rw [fits_putRow _ _ _ _ _ n7,fits_putRow _ _ _ _ _ n7];exact F6
   have hpR:=put?_fits (o:=0) (cs:=blk [WI.of d,WI.of b',WI.of a,sum4 (WI.of d) (WI.of x) (WI.of b') (WI.of y),sum4 (WI.of b') (WI.of x) (WI.of a) (WI.of y),WI.of (d*(x*x)+a*(y*y)+(b'*(x*y)+b'*(x*y))),WI.of (a*d-b*b)]) (by simpa using F9) (by simp)
   have rR:=row_put hpR (n:=126) (by simp)
   clear c0 c1 c2 c3 c4 e0 e1 e2 e3 e4 t0 t1 t2 s5 s6 q0 q1 q2
   go_wp2_with fail
   exact bodyPost_row_t 126 _ (.int .i64 0) rfl rfl rfl rfl Tryz.underlying225 rfl info_Info rR ⟨by rw [iqV,EF.out,E1.out,E2.out],below_byR⟩
theorem infoOf_c (e:El) (w:World) :
  Calls Tryz.prog 159 #[elV e] w fun r w'=>r = .returned (.tuple #[iqV (ofE e).1,.int .i64 (ofE e).2])∧Below w.heap.size w w':=by
 obtain ⟨x,y,a,b,d⟩:=e
 cases he:El.may ⟨x,y,a,b,d⟩ with
 | true =>
  have:ofE ⟨x,y,a,b,d⟩=(ofEl ⟨x,y,a,b,d⟩,0):=by unfold ofE;rw [if_pos he]
  rw [this];exact infoOf_main x y a b d he w
 | false =>
  have HE:=Lib.hid he
  have E:Hid (ofE ⟨x,y,a,b,d⟩=(Iq.zero,1)):=by show _=_;unfold ofE;rw [if_neg (by rw [he];decide)]
  clear he
  show Calls Tryz.prog 159 #[elC x y a b d] w _
  go_enter Tryz.func159,Tryz.ntmps159
  go_wp2_with fail
  refine (ellmay_c _ _ _ _ _ _).mono ?_;rintro e w1 ⟨rfl,hb1⟩;rw [HE.out];have z_w1:=hb1.size;(try simp at z_w1);obtain ⟨yw1aa,cw1aa,fw1aa,rw1aa,tw1aa,pw1aa⟩:=bq hb1 (w.heap.size);obtain ⟨yw1ab,cw1ab,fw1ab,rw1ab,tw1ab,pw1ab⟩:=bq hb1 (w.heap.size+1)
  have F1:w1.fits (w.heap.size+1) 126=true:=by go_simp
  have hpR:=put?_fits (o:=0) (cs:=blk [WI.of 0,WI.of 0,WI.of 0,WI.of 0,WI.of 0,WI.of 0,WI.of 0]) (by simpa using F1) (by simp)
  have rR:=row_put hpR (n:=126) (by simp)
  go_wp2_with fail
  exact bodyPost_row_t 126 _ (.int .i64 1) rfl rfl rfl rfl Tryz.underlying225 rfl info_Info rR ⟨by rw [E.out];rfl,below_byR⟩
structure St where
 ox:Int
 oy:Int
 hx:Int
 hy:Int
 lo:Int
 hi:Int
def St.may (s:St):Bool:=mayPt s.ox s.oy&&(withinB s.hx s.hy 16777216&&(!(decide (s.hx=0)&&decide (s.hy=0))&&(decide (-1125899906842624≤s.lo)&&(decide (s.lo<s.hi)&&decide (s.hi≤1125899906842624)))))
theorem withinB_iff (x y m:Int):withinB x y m=true ↔ -m≤x∧x≤m ∧ -m≤y∧y≤m:=by unfold withinB;simp
theorem St.may_iff (s:St):s.may=true↔(-4194304≤s.ox∧s.ox≤4194304 ∧ -4194304≤s.oy∧s.oy≤4194304)∧(-16777216≤s.hx∧s.hx≤16777216 ∧ -16777216≤s.hy∧s.hy≤16777216)∧¬ (s.hx=0∧s.hy=0) ∧ -1125899906842624≤s.lo∧s.lo<s.hi∧s.hi≤1125899906842624:=by
 unfold St.may;simp only [Bool.and_eq_true,mayPt_iff,withinB_iff,decide_eq_true_eq,Bool.not_eq_true',Bool.and_eq_false_iff,decide_eq_false_iff_not]
 constructor
 ·rintro ⟨a,b,c,d⟩;exact ⟨a,b,by omega,by omega⟩
 ·rintro ⟨a,b,c,d⟩;exact ⟨a,b,by omega,by omega⟩
def St.m (s:St):Int:=s.lo+s.hi+2*s.hx*s.ox+2*s.hy*s.oy
def ofStl (s:St):Iq:=⟨2*s.hx*(2*s.hx),2*s.hx*(2*s.hy),2*s.hy*(2*s.hy),s.m*(2*s.hx),s.m*(2*s.hy),s.m*s.m,(s.hi-s.lo)*(s.hi-s.lo)⟩
def ofSt (s:St):Iq × Int:=if s.may=true then (ofStl s,0) else (Iq.zero,1)
structure OnlyAt (g:Nat) (w w':World):Prop where
 os:w'.os=w.os
 tape:w'.tape=w.tape
 output:w'.output=w.output
 size:w.heap.size≤w'.heap.size
 block:∀ k,k<w.heap.size→k≠g→w'.heap[k]? = w.heap[k]?
section
variable {g:Nat} {w w' w'':World}
theorem OnlyAt.refl:OnlyAt g w w:=⟨rfl,rfl,rfl,Nat.le_refl _,fun _ _ _=>rfl⟩
theorem OnlyAt.of_below (h:Below w.heap.size w w'):OnlyAt g w w':=⟨h.os,h.tape,h.output,h.size,fun k hk _=>h.block k hk⟩
theorem OnlyAt.trans (h:OnlyAt g w w') (h':OnlyAt g w' w''):OnlyAt g w w'' :=
 ⟨h'.os.trans h.os,h'.tape.trans h.tape,h'.output.trans h.output,Nat.le_trans h.size h'.size,fun k hk hg=>(h'.block k (Nat.lt_of_lt_of_le hk h.size) hg).trans (h.block k hk hg)⟩
theorem OnlyAt.alloc (h:OnlyAt g w w') (o:Obj):OnlyAt g w (w'.alloc o) :=
 ⟨h.os,h.tape,h.output,by have:=h.size;simp;omega,fun k hk hg=>(Below.heap_alloc w' o k (Nat.lt_of_lt_of_le hk h.size)).trans (h.block k hk hg)⟩
theorem OnlyAt.drew (h:OnlyAt g w w'):OnlyAt g w w'.drew:=⟨h.os,h.tape,h.output,h.size,h.block⟩
theorem OnlyAt.setCell (h:OnlyAt g w w') (i:Nat) (v:Value):OnlyAt g w (w'.setCell ⟨g,i,none⟩ v) :=
 ⟨h.os,h.tape,h.output,by have:=h.size;simpa using this,fun k hk hg=>(heap_setCell_other w' ⟨g,i,none⟩ k v hg).trans (h.block k hk hg)⟩
theorem OnlyAt.setNew (h:OnlyAt g w w') {b:Nat} (hb:w.heap.size≤b) (i:Nat) (v:Value):OnlyAt g w (w'.setCell ⟨b,i,none⟩ v) :=
 ⟨h.os,h.tape,h.output,by have:=h.size;simpa using this,fun k hk hg=>(heap_setCell_other w' ⟨b,i,none⟩ k v (by simp only;omega)).trans (h.block k hk hg)⟩
theorem OnlyAt.blk (h:OnlyAt g w w') {b:Nat} {c:Array Value} {t:TypeId} (hb:Blk w b c t) (hne:b≠g):Blk w' b c t:=(h.block b hb.lt hne).trans hb
theorem OnlyAt.below {B:Nat} {w0:World} (h:OnlyAt g w w') (hb:Below B w0 w) (hB:B≤w0.heap.size) (hg:B≤g):Below B w0 w' :=
 ⟨h.os.trans hb.os,h.tape.trans hb.tape,h.output.trans hb.output,Nat.le_trans hb.size h.size,fun k hk=>(h.block k (by have:=hb.size;omega) (by omega)).trans (hb.block k hk)⟩
end
theorem bk_o {w:World} {b:Nat} {c:Array Value} {t:TypeId} (h:Blk w b c t) :
  b<w.heap.size∧(∀ o,w.cell? ⟨b,o,none⟩=c[o]?)∧(∀ o,w.frozen? ⟨b,o,none⟩=false)∧w.row? b 0 c.size=some c :=
 ⟨h.lt,h.at,h.frozen,h.row?_all _ rfl⟩
end Go.Proofs.YtechbdnhalmobaaGreatDoor
