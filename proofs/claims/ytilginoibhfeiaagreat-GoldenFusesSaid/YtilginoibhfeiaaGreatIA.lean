/- Laws and walks that the claim names. -/
import Derived.Test.YtilginoibhfeiaaGreatBM
import Derived.Test.YtilginoibhfeiaaGreatBE
import Derived.Deep.Cut
set_option maxRecDepth 100000
set_option maxHeartbeats 16000000
namespace Go.Proofs.YtilginoibhfeiaaGreat
open Go.RowKit
def blk (l:List WI):Array Value:=(l.flatMap (·.cells.toList)).toArray
theorem WI.cells_len (x:WI):x.cells.toList.length=18:=by rw [x.cells_eq];simp
@[simp] theorem blk_size (l : List WI) : (blk l).size = 18 * l.length := by
  unfold blk
  induction l with
  | nil=>rfl
  | cons a l ih =>
   simp only [List.size_toArray,List.flatMap_cons,List.length_append,List.length_cons,WI.cells_len] at ih ⊢
   omega
theorem blk_toList (l:List WI):(blk l).toList=l.flatMap (·.cells.toList):=rfl
theorem blk_at (l:List WI) (k:Nat) (x:WI) (h:l[k]? = some x):(blk l).extract (18*k) (18*k+18)=x.cells:=by
 apply Array.ext'
 simp only [Array.toList_extract,blk_toList,List.extract_eq_take_drop]
 induction l generalizing k with
 | nil=>simp at h
 | cons a l ih =>
  rw [List.flatMap_cons]
  rcases k with _|k
  ·obtain rfl:a=x:=by simpa using h
   simp
  ·have:=ih k (by simpa using h)
   rw [show 18*(k+1)=18+18*k by omega,List.drop_append,WI.cells_len,List.drop_eq_nil_of_le (by rw [WI.cells_len];omega),List.nil_append]
   rw [show 18+18*k-18=18*k by omega,show 18+18*k+18-(18+18*k)=18*k+18-18*k by omega]
   exact this
theorem blk_splice (l:List WI) (k:Nat) (x:WI) (h:k<l.length):splice (blk l) (18*k) x.cells=blk (l.set k x):=by
 apply Array.ext'
 have hs:x.cells.size=18:=by have:=x.cells_len;rwa [Array.length_toList] at this
 simp only [splice,blk_toList,hs]
 induction l generalizing k with
 | nil=>simp at h
 | cons a l ih =>
  rcases k with _|k
  ·simp
  ·have:=ih k (by simpa using h)
   simp only [List.flatMap_cons,List.set_cons_succ]
   rw [show 18*(k+1)=18+18*k by omega,List.take_append,List.drop_append]
   rw [WI.cells_len,List.take_of_length_le (by rw [WI.cells_len];omega),List.drop_eq_nil_of_le (by rw [WI.cells_len];omega)]
   rw [show 18+18*k-18=18*k by omega,show 18+18*k+18-18=18*k+18 by omega,List.nil_append,List.append_assoc,List.append_assoc]
   congr 1
   rw [← List.append_assoc];exact this
@[simp] theorem blk_ones (l : List WI) : ones (blk l) = true := by
  unfold ones
  rw [← Array.all_toList,blk_toList,List.all_flatMap]
  rw [List.all_eq_true]
  intro a _
  have:=a.cells_ones
  unfold ones at this
  rw [← Array.all_toList] at this
  exact this
@[simp] theorem blk_all (l : List WI) (n : Nat) (h : n = 18 * l.length) : (blk l).extract 0 n = blk l := by
  have:=Array.extract_size (xs:=blk l);rw [blk_size] at this;rw [h];exact this
@[simp] theorem blk_x0 (a : WI) (l : List WI) : (blk (a :: l)).extract 0 18 = a.cells := blk_at _ 0 a rfl
@[simp] theorem blk_x1 (a b : WI) (l : List WI) : (blk (a :: b :: l)).extract 18 36 = b.cells := blk_at _ 1 b rfl
@[simp] theorem blk_x2 (a b c : WI) (l : List WI) : (blk (a :: b :: c :: l)).extract 36 54 = c.cells := blk_at _ 2 c rfl
@[simp] theorem blk_x3 (a b c d : WI) (l : List WI) : (blk (a :: b :: c :: d :: l)).extract 54 72 = d.cells := blk_at _ 3 d rfl
@[simp] theorem blk_x4 (a b c d e : WI) (l : List WI) : (blk (a :: b :: c :: d :: e :: l)).extract 72 90 = e.cells := blk_at _ 4 e rfl
@[simp] theorem blk_x5 (a b c d e f : WI) (l : List WI) : (blk (a :: b :: c :: d :: e :: f :: l)).extract 90 108 = f.cells := blk_at _ 5 f rfl
@[simp] theorem blk_x6 (a b c d e f g : WI) (l : List WI) : (blk (a :: b :: c :: d :: e :: f :: g :: l)).extract 108 126 = g.cells := blk_at _ 6 g rfl
@[simp] theorem blk_s0 (x a : WI) (l : List WI) : splice (blk (a :: l)) 0 x.cells = blk (x :: l) := blk_splice _ 0 x (by simp)
@[simp] theorem blk_s3 (x a b c d : WI) (l : List WI) : splice (blk (a :: b :: c :: d :: l)) 54 x.cells = blk (a :: b :: c :: x :: l) := blk_splice _ 3 x (by simp)
@[simp] theorem blk_s4 (x a b c d e : WI) (l : List WI) : splice (blk (a :: b :: c :: d :: e :: l)) 72 x.cells = blk (a :: b :: c :: d :: x :: l) := blk_splice _ 4 x (by simp)
theorem cellsI_0eq:cellsI false false 0=(WI.of 0).cells:=by
 rw [WI.cells_eq];unfold WI.ng WI.ov WI.sz;rw [WI.of_v (by simpa using lim_pos)];rfl
/-! ### What is built of parts -/
theorem fill_blk (place:Nat→Option (Nat × Nat)) (l:List WI) (k i:Nat) (x:WI) (rest:List (Nat × Value)) (hp:place i=some (18*k,18)) (h:k<l.length) :
  Instr.fill place (blk l) ((i,.agg x.cells) :: rest)=Instr.fill place (blk (l.set k x)) rest:=by
 have hs:x.cells.size=18:=by have:=x.cells_len;rwa [Array.length_toList] at this
 have hf:=foldl_splice (blk l) x.cells (18*k) (by rw [hs,blk_size];omega)
 rw [blk_splice l k x h] at hf
 have hc:¬ (decide ((Value.agg x.cells).cells.size≠18)||decide (18*k+(Value.agg x.cells).cells.size > (blk l).size))=true:=by
  simp only [Value.cells,hs,blk_size];simp;omega
 rw [Instr.fill]
 simp only [hp]
 rw [if_neg hc]
 congr 1
@[go_sem ↓] theorem zero_Info (w : World) : (zeroValue 60).run Tryz.prog w = .ok (.agg (blk [WI.of 0, WI.of 0, WI.of 0, WI.of 0, WI.of 0, WI.of 0, WI.of 0])) w := by
  have h:(blk [WI.of 0,WI.of 0,WI.of 0,WI.of 0,WI.of 0,WI.of 0,WI.of 0])=cellsI false false 0++cellsI false false 0++cellsI false false 0++cellsI false false 0++cellsI false false 0++cellsI false false 0++cellsI false false 0:=by
   rw [cellsI_0eq];apply Array.ext';simp [blk_toList]
  rw [h,cellsI_lit];exact Tryz.zeroValue60 w
@[go_sem ↓] theorem lcf_126 (P : Program) (w : World) (b o : Nat) : (loadCellsFrom ⟨b, o, none⟩ 0 126 #[]).run P w = rowResA (w.row? b o 126) w (lcf P b o 126 w) := lcf_row? w b o 126
theorem info_Info:(Tryz.prog.info? 60).map (·.size)=some 126:=by kernel_rfl
def slcR (P:Program) (t:TypeId) (n:Nat) (parts:Array (Nat × Value)) (w:World):Result Value:=(Instr.buildSlice t n parts).run P w
def bldR (P:Program) (t:TypeId) (parts:Array (Nat × Value)) (w:World):Result Value:=(Instr.build t parts).run P w
@[go_sem ↓] theorem exec_slc4 {P : Program} (ρ : Operand → Value) (dst : Option Tmp) (ty : TypeId) (pos : String) (af : Array Edge) (gd : Option (Nat × Bool)) (a b c d : Operand) (w : World) :
    (execOp ρ ⟨dst,.buildSlice 170 4 #[(0,a),(1,b),(2,c),(3,d)],ty,pos,af,gd⟩).run P w=(slcR P 170 4 #[(0,ρ a),(1,ρ b),(2,ρ c),(3,ρ d)] w).andThen fun v w' => .ok (.value v) w':=by
 simp only [execOp,slcR,Sem.run_bind,Sem.run_pure,List.map_toArray,List.map_cons,List.map_nil]
@[go_sem ↓] theorem exec_bld7 {P : Program} (ρ : Operand → Value) (dst : Option Tmp) (ty : TypeId) (pos : String) (af : Array Edge) (gd : Option (Nat × Bool)) (a b c d e f g : Operand) (w : World) :
    (execOp ρ ⟨dst,.build 60 #[(0,a),(1,b),(2,c),(3,d),(4,e),(5,f),(6,g)],ty,pos,af,gd⟩).run P w=(bldR P 60 #[(0,ρ a),(1,ρ b),(2,ρ c),(3,ρ d),(4,ρ e),(5,ρ f),(6,ρ g)] w).andThen fun v w' => .ok (.value v) w':=by
 simp only [execOp,bldR,Sem.run_bind,Sem.run_pure,List.map_toArray,List.map_cons,List.map_nil]
@[go_sem ↓] theorem exec_bld5 {P : Program} (ρ : Operand → Value) (dst : Option Tmp) (ty : TypeId) (pos : String) (af : Array Edge) (gd : Option (Nat × Bool)) (a b c f g : Operand) (w : World) :
    (execOp ρ ⟨dst,.build 60 #[(0,a),(1,b),(2,c),(5,f),(6,g)],ty,pos,af,gd⟩).run P w=(bldR P 60 #[(0,ρ a),(1,ρ b),(2,ρ c),(5,ρ f),(6,ρ g)] w).andThen fun v w' => .ok (.value v) w':=by
 simp only [execOp,bldR,Sem.run_bind,Sem.run_pure,List.map_toArray,List.map_cons,List.map_nil]
@[go_sem] theorem andThen_okv {α β : Type} (v : α) (w : World) (k : α → World → Result β) : (Result.ok v w).andThen k = k v w := rfl
theorem fill_nil (place:Nat→Option (Nat × Nat)) (c:Array Value):Instr.fill place c []=some c:=by rw [Instr.fill]
theorem size_Int (w:World):(sizeOf 58).run Tryz.prog w = .ok 18 w:=by kernel_rfl
@[go_sem] theorem bld7_run (a b c d e f g : WI) (w : World) : bldR Tryz.prog 60 #[(0, .agg a.cells), (1, .agg b.cells), (2, .agg c.cells), (3, .agg d.cells), (4, .agg e.cells), (5, .agg f.cells), (6, .agg g.cells)] w = .ok (.agg (blk [a, b, c, d, e, f, g])) w := by
  unfold bldR Instr.build
  simp only [Sem.run_bind,zero_Info,Result.andThen_ok,Value.cells,run_underlying Tryz.underlying60]
  generalize hp:Sem.run Tryz.prog (Array.mapM _ _) w=r
  have hr:r = .ok #[(0,18),(18,18),(36,18),(54,18),(72,18),(90,18),(108,18)] w:=by rw [← hp];kernel_rfl
  rw [hr]
  simp only [Result.andThen_ok]
  rw [fill_blk _ _ 0 0 a _ rfl (by simp),
   fill_blk _ _ 1 1 b _ rfl (by simp),
   fill_blk _ _ 2 2 c _ rfl (by simp),
   fill_blk _ _ 3 3 d _ rfl (by simp),
   fill_blk _ _ 4 4 e _ rfl (by simp),
   fill_blk _ _ 5 5 f _ rfl (by simp),
   fill_blk _ _ 6 6 g _ rfl (by simp),fill_nil]
  simp
@[go_sem] theorem bld5_run (a b c f g : WI) (w : World) : bldR Tryz.prog 60 #[(0, .agg a.cells), (1, .agg b.cells), (2, .agg c.cells), (5, .agg f.cells), (6, .agg g.cells)] w = .ok (.agg (blk [a, b, c, WI.of 0, WI.of 0, f, g])) w := by
  unfold bldR Instr.build
  simp only [Sem.run_bind,zero_Info,Result.andThen_ok,Value.cells,run_underlying Tryz.underlying60]
  generalize hp:Sem.run Tryz.prog (Array.mapM _ _) w=r
  have hr:r = .ok #[(0,18),(18,18),(36,18),(54,18),(72,18),(90,18),(108,18)] w:=by rw [← hp];kernel_rfl
  rw [hr]
  simp only [Result.andThen_ok]
  rw [fill_blk _ _ 0 0 a _ rfl (by simp),
   fill_blk _ _ 1 1 b _ rfl (by simp),
   fill_blk _ _ 2 2 c _ rfl (by simp),
   fill_blk _ _ 5 5 f _ rfl (by simp),
   fill_blk _ _ 6 6 g _ rfl (by simp),fill_nil]
  simp
theorem row_four0:(Array.map (fun x=>(Value.agg #[.bool false,.bool false,.int .u64 0,.int .u64 0,.int .u64 0,.int .u64 0,.int .u64 0,.int .u64 0,.int .u64 0,.int .u64 0,.int .u64 0,.int .u64 0,.int .u64 0,.int .u64 0,.int .u64 0,.int .u64 0,.int .u64 0,.int .u64 0]).cells[x%(Value.agg #[.bool false,.bool false,.int .u64 0,.int .u64 0,.int .u64 0,.int .u64 0,.int .u64 0,.int .u64 0,.int .u64 0,.int .u64 0,.int .u64 0,.int .u64 0,.int .u64 0,.int .u64 0,.int .u64 0,.int .u64 0,.int .u64 0,.int .u64 0]).cells.size]!) (Array.range (4*18)))=#[.bool false,.bool false,.int .u64 0,.int .u64 0,.int .u64 0,.int .u64 0,.int .u64 0,.int .u64 0,.int .u64 0,.int .u64 0,.int .u64 0,.int .u64 0,.int .u64 0,.int .u64 0,.int .u64 0,.int .u64 0,.int .u64 0,.int .u64 0]++#[.bool false,.bool false,.int .u64 0,.int .u64 0,.int .u64 0,.int .u64 0,.int .u64 0,.int .u64 0,.int .u64 0,.int .u64 0,.int .u64 0,.int .u64 0,.int .u64 0,.int .u64 0,.int .u64 0,.int .u64 0,.int .u64 0,.int .u64 0]++#[.bool false,.bool false,.int .u64 0,.int .u64 0,.int .u64 0,.int .u64 0,.int .u64 0,.int .u64 0,.int .u64 0,.int .u64 0,.int .u64 0,.int .u64 0,.int .u64 0,.int .u64 0,.int .u64 0,.int .u64 0,.int .u64 0,.int .u64 0]++#[.bool false,.bool false,.int .u64 0,.int .u64 0,.int .u64 0,.int .u64 0,.int .u64 0,.int .u64 0,.int .u64 0,.int .u64 0,.int .u64 0,.int .u64 0,.int .u64 0,.int .u64 0,.int .u64 0,.int .u64 0,.int .u64 0,.int .u64 0]:=by kernel_rfl
theorem row_four:(Array.map (fun x=>(Value.agg (cellsI false false 0)).cells[x%(Value.agg (cellsI false false 0)).cells.size]!) (Array.range (4*18)))=blk [WI.of 0,WI.of 0,WI.of 0,WI.of 0]:=by
 have h:blk [WI.of 0,WI.of 0,WI.of 0,WI.of 0]=cellsI false false 0++cellsI false false 0++cellsI false false 0++cellsI false false 0:=by
  rw [cellsI_0eq];apply Array.ext';simp [blk_toList]
 rw [h,cellsI_lit];exact row_four0
@[go_sem] theorem slc4_run (a b c d : WI) (w : World) : slcR Tryz.prog 170 4 #[(0, .agg a.cells), (1, .agg b.cells), (2, .agg c.cells), (3, .agg d.cells)] w =
    .ok (.slice (some ⟨w.heap.size,0,none⟩) 4 4) (w.alloc (.cells (blk [a,b,c,d]) 58)):=by
 unfold slcR Instr.buildSlice
 simp only [Sem.run_bind,Result.andThen_ok,run_underlying Tryz.underlying170,size_Int]
 rw [if_neg (by decide),if_neg (by decide)]
 simp only [Sem.run_bind,Sem.run_pure,Result.andThen_ok,zero_Int]
 rw [row_four,fill_blk _ _ 0 0 a _ rfl (by simp),fill_blk _ _ 1 1 b _ rfl (by simp),fill_blk _ _ 2 2 c _ rfl (by simp),fill_blk _ _ 3 3 d _ rfl (by simp),fill_nil]
 simp only [newRow,newObj,Sem.run_bind,Sem.run_pure]
 rfl
@[go_sem ↓] theorem exec_slc7 {P : Program} (ρ : Operand → Value) (dst : Option Tmp) (ty : TypeId) (pos : String) (af : Array Edge) (gd : Option (Nat × Bool)) (a b c d e f g : Operand) (w : World) :
    (execOp ρ ⟨dst,.buildSlice 170 7 #[(0,a),(1,b),(2,c),(3,d),(4,e),(5,f),(6,g)],ty,pos,af,gd⟩).run P w=(slcR P 170 7 #[(0,ρ a),(1,ρ b),(2,ρ c),(3,ρ d),(4,ρ e),(5,ρ f),(6,ρ g)] w).andThen fun v w' => .ok (.value v) w':=by
 simp only [execOp,slcR,Sem.run_bind,Sem.run_pure,List.map_toArray,List.map_cons,List.map_nil]
theorem row_z70:(Array.map (fun x=>(Value.agg #[.bool false,.bool false,.int .u64 0,.int .u64 0,.int .u64 0,.int .u64 0,.int .u64 0,.int .u64 0,.int .u64 0,.int .u64 0,.int .u64 0,.int .u64 0,.int .u64 0,.int .u64 0,.int .u64 0,.int .u64 0,.int .u64 0,.int .u64 0]).cells[x%(Value.agg #[.bool false,.bool false,.int .u64 0,.int .u64 0,.int .u64 0,.int .u64 0,.int .u64 0,.int .u64 0,.int .u64 0,.int .u64 0,.int .u64 0,.int .u64 0,.int .u64 0,.int .u64 0,.int .u64 0,.int .u64 0,.int .u64 0,.int .u64 0]).cells.size]!) (Array.range (7*18)))=#[.bool false,.bool false,.int .u64 0,.int .u64 0,.int .u64 0,.int .u64 0,.int .u64 0,.int .u64 0,.int .u64 0,.int .u64 0,.int .u64 0,.int .u64 0,.int .u64 0,.int .u64 0,.int .u64 0,.int .u64 0,.int .u64 0,.int .u64 0]++#[.bool false,.bool false,.int .u64 0,.int .u64 0,.int .u64 0,.int .u64 0,.int .u64 0,.int .u64 0,.int .u64 0,.int .u64 0,.int .u64 0,.int .u64 0,.int .u64 0,.int .u64 0,.int .u64 0,.int .u64 0,.int .u64 0,.int .u64 0]++#[.bool false,.bool false,.int .u64 0,.int .u64 0,.int .u64 0,.int .u64 0,.int .u64 0,.int .u64 0,.int .u64 0,.int .u64 0,.int .u64 0,.int .u64 0,.int .u64 0,.int .u64 0,.int .u64 0,.int .u64 0,.int .u64 0,.int .u64 0]++#[.bool false,.bool false,.int .u64 0,.int .u64 0,.int .u64 0,.int .u64 0,.int .u64 0,.int .u64 0,.int .u64 0,.int .u64 0,.int .u64 0,.int .u64 0,.int .u64 0,.int .u64 0,.int .u64 0,.int .u64 0,.int .u64 0,.int .u64 0]++#[.bool false,.bool false,.int .u64 0,.int .u64 0,.int .u64 0,.int .u64 0,.int .u64 0,.int .u64 0,.int .u64 0,.int .u64 0,.int .u64 0,.int .u64 0,.int .u64 0,.int .u64 0,.int .u64 0,.int .u64 0,.int .u64 0,.int .u64 0]++#[.bool false,.bool false,.int .u64 0,.int .u64 0,.int .u64 0,.int .u64 0,.int .u64 0,.int .u64 0,.int .u64 0,.int .u64 0,.int .u64 0,.int .u64 0,.int .u64 0,.int .u64 0,.int .u64 0,.int .u64 0,.int .u64 0,.int .u64 0]++#[.bool false,.bool false,.int .u64 0,.int .u64 0,.int .u64 0,.int .u64 0,.int .u64 0,.int .u64 0,.int .u64 0,.int .u64 0,.int .u64 0,.int .u64 0,.int .u64 0,.int .u64 0,.int .u64 0,.int .u64 0,.int .u64 0,.int .u64 0]:=by kernel_rfl
theorem row_z7:(Array.map (fun x=>(Value.agg (cellsI false false 0)).cells[x%(Value.agg (cellsI false false 0)).cells.size]!) (Array.range (7*18)))=blk [WI.of 0,WI.of 0,WI.of 0,WI.of 0,WI.of 0,WI.of 0,WI.of 0]:=by
 have h:blk [WI.of 0,WI.of 0,WI.of 0,WI.of 0,WI.of 0,WI.of 0,WI.of 0]=cellsI false false 0++cellsI false false 0++cellsI false false 0++cellsI false false 0++cellsI false false 0++cellsI false false 0++cellsI false false 0:=by
  rw [cellsI_0eq];apply Array.ext';simp [blk_toList]
 rw [h,cellsI_lit];exact row_z70
@[go_sem] theorem slc7_run (a b c d e f g : WI) (w : World) : slcR Tryz.prog 170 7 #[(0, .agg a.cells), (1, .agg b.cells), (2, .agg c.cells), (3, .agg d.cells), (4, .agg e.cells), (5, .agg f.cells), (6, .agg g.cells)] w =
    .ok (.slice (some ⟨w.heap.size,0,none⟩) 7 7) (w.alloc (.cells (blk [a,b,c,d,e,f,g]) 58)):=by
 unfold slcR Instr.buildSlice
 simp only [Sem.run_bind,Result.andThen_ok,run_underlying Tryz.underlying170,size_Int]
 rw [if_neg (by decide),if_neg (by decide)]
 simp only [Sem.run_bind,Sem.run_pure,Result.andThen_ok,zero_Int]
 rw [row_z7,fill_blk _ _ 0 0 a _ rfl (by simp),fill_blk _ _ 1 1 b _ rfl (by simp),fill_blk _ _ 2 2 c _ rfl (by simp),fill_blk _ _ 3 3 d _ rfl (by simp),fill_blk _ _ 4 4 e _ rfl (by simp),fill_blk _ _ 5 5 f _ rfl (by simp),fill_blk _ _ 6 6 g _ rfl (by simp),fill_nil]
 simp only [newRow,newObj,Sem.run_bind,Sem.run_pure]
 rfl
@[go_sem ↓] theorem exec_slc8 {P : Program} (ρ : Operand → Value) (dst : Option Tmp) (ty : TypeId) (pos : String) (af : Array Edge) (gd : Option (Nat × Bool)) (a b c d e f g h : Operand) (w : World) :
    (execOp ρ ⟨dst,.buildSlice 170 8 #[(0,a),(1,b),(2,c),(3,d),(4,e),(5,f),(6,g),(7,h)],ty,pos,af,gd⟩).run P w=(slcR P 170 8 #[(0,ρ a),(1,ρ b),(2,ρ c),(3,ρ d),(4,ρ e),(5,ρ f),(6,ρ g),(7,ρ h)] w).andThen fun v w' => .ok (.value v) w':=by
 simp only [execOp,slcR,Sem.run_bind,Sem.run_pure,List.map_toArray,List.map_cons,List.map_nil]
theorem row_z80:(Array.map (fun x=>(Value.agg #[.bool false,.bool false,.int .u64 0,.int .u64 0,.int .u64 0,.int .u64 0,.int .u64 0,.int .u64 0,.int .u64 0,.int .u64 0,.int .u64 0,.int .u64 0,.int .u64 0,.int .u64 0,.int .u64 0,.int .u64 0,.int .u64 0,.int .u64 0]).cells[x%(Value.agg #[.bool false,.bool false,.int .u64 0,.int .u64 0,.int .u64 0,.int .u64 0,.int .u64 0,.int .u64 0,.int .u64 0,.int .u64 0,.int .u64 0,.int .u64 0,.int .u64 0,.int .u64 0,.int .u64 0,.int .u64 0,.int .u64 0,.int .u64 0]).cells.size]!) (Array.range (8*18)))=#[.bool false,.bool false,.int .u64 0,.int .u64 0,.int .u64 0,.int .u64 0,.int .u64 0,.int .u64 0,.int .u64 0,.int .u64 0,.int .u64 0,.int .u64 0,.int .u64 0,.int .u64 0,.int .u64 0,.int .u64 0,.int .u64 0,.int .u64 0]++#[.bool false,.bool false,.int .u64 0,.int .u64 0,.int .u64 0,.int .u64 0,.int .u64 0,.int .u64 0,.int .u64 0,.int .u64 0,.int .u64 0,.int .u64 0,.int .u64 0,.int .u64 0,.int .u64 0,.int .u64 0,.int .u64 0,.int .u64 0]++#[.bool false,.bool false,.int .u64 0,.int .u64 0,.int .u64 0,.int .u64 0,.int .u64 0,.int .u64 0,.int .u64 0,.int .u64 0,.int .u64 0,.int .u64 0,.int .u64 0,.int .u64 0,.int .u64 0,.int .u64 0,.int .u64 0,.int .u64 0]++#[.bool false,.bool false,.int .u64 0,.int .u64 0,.int .u64 0,.int .u64 0,.int .u64 0,.int .u64 0,.int .u64 0,.int .u64 0,.int .u64 0,.int .u64 0,.int .u64 0,.int .u64 0,.int .u64 0,.int .u64 0,.int .u64 0,.int .u64 0]++#[.bool false,.bool false,.int .u64 0,.int .u64 0,.int .u64 0,.int .u64 0,.int .u64 0,.int .u64 0,.int .u64 0,.int .u64 0,.int .u64 0,.int .u64 0,.int .u64 0,.int .u64 0,.int .u64 0,.int .u64 0,.int .u64 0,.int .u64 0]++#[.bool false,.bool false,.int .u64 0,.int .u64 0,.int .u64 0,.int .u64 0,.int .u64 0,.int .u64 0,.int .u64 0,.int .u64 0,.int .u64 0,.int .u64 0,.int .u64 0,.int .u64 0,.int .u64 0,.int .u64 0,.int .u64 0,.int .u64 0]++#[.bool false,.bool false,.int .u64 0,.int .u64 0,.int .u64 0,.int .u64 0,.int .u64 0,.int .u64 0,.int .u64 0,.int .u64 0,.int .u64 0,.int .u64 0,.int .u64 0,.int .u64 0,.int .u64 0,.int .u64 0,.int .u64 0,.int .u64 0]++#[.bool false,.bool false,.int .u64 0,.int .u64 0,.int .u64 0,.int .u64 0,.int .u64 0,.int .u64 0,.int .u64 0,.int .u64 0,.int .u64 0,.int .u64 0,.int .u64 0,.int .u64 0,.int .u64 0,.int .u64 0,.int .u64 0,.int .u64 0]:=by kernel_rfl
theorem row_z8:(Array.map (fun x=>(Value.agg (cellsI false false 0)).cells[x%(Value.agg (cellsI false false 0)).cells.size]!) (Array.range (8*18)))=blk [WI.of 0,WI.of 0,WI.of 0,WI.of 0,WI.of 0,WI.of 0,WI.of 0,WI.of 0]:=by
 have h:blk [WI.of 0,WI.of 0,WI.of 0,WI.of 0,WI.of 0,WI.of 0,WI.of 0,WI.of 0]=cellsI false false 0++cellsI false false 0++cellsI false false 0++cellsI false false 0++cellsI false false 0++cellsI false false 0++cellsI false false 0++cellsI false false 0:=by
  rw [cellsI_0eq];apply Array.ext';simp [blk_toList]
 rw [h,cellsI_lit];exact row_z80
@[go_sem] theorem slc8_run (a b c d e f g h : WI) (w : World) : slcR Tryz.prog 170 8 #[(0, .agg a.cells), (1, .agg b.cells), (2, .agg c.cells), (3, .agg d.cells), (4, .agg e.cells), (5, .agg f.cells), (6, .agg g.cells), (7, .agg h.cells)] w =
    .ok (.slice (some ⟨w.heap.size,0,none⟩) 8 8) (w.alloc (.cells (blk [a,b,c,d,e,f,g,h]) 58)):=by
 unfold slcR Instr.buildSlice
 simp only [Sem.run_bind,Result.andThen_ok,run_underlying Tryz.underlying170,size_Int]
 rw [if_neg (by decide),if_neg (by decide)]
 simp only [Sem.run_bind,Sem.run_pure,Result.andThen_ok,zero_Int]
 rw [row_z8,fill_blk _ _ 0 0 a _ rfl (by simp),fill_blk _ _ 1 1 b _ rfl (by simp),fill_blk _ _ 2 2 c _ rfl (by simp),fill_blk _ _ 3 3 d _ rfl (by simp),fill_blk _ _ 4 4 e _ rfl (by simp),fill_blk _ _ 5 5 f _ rfl (by simp),fill_blk _ _ 6 6 g _ rfl (by simp),fill_blk _ _ 7 7 h _ rfl (by simp),fill_nil]
 simp only [newRow,newObj,Sem.run_bind,Sem.run_pure]
 rfl
theorem row_lt {w:World} {b o n:Nat} {cs:Array Value} (h:w.row? b o n=some cs):b<w.heap.size:=by
 unfold World.row? at h
 split at h
 ·rename_i c t fr hb;exact heap_lt hb
 ·cases h
theorem inw_row {w:World} {b o n:Nat} {cs:Array Value} (h:w.row? b o n=some cs) {fr:Nat→Option Fresh} {g:Nat→Nat} {N:List Nat} (p:Inw w.drew fr g N):p.w.row? b o n=some cs:=by
 have hb:Below w.heap.size w p.w:=⟨p.low.os,p.low.tape,p.low.output,p.low.size,p.low.block⟩
 rw [Below.row? hb b o n (row_lt h)];exact h
open Go.RowKit
def sum4 (a b c d:WI):WI:=((WI.of 0).add (a.mul b)).add (c.mul d)
def sumAt (a b c d:WI) (k:Nat):WI:=if k=0 then WI.of 0 else if k=1 then (WI.of 0).add (a.mul b) else sum4 a b c d
theorem sum4_c (a b c d:WI) (g:Nat) (w:World) (hg:w.heap[g]? = some (.cells (blk [a,b,c,d]) 58 (0,0))) :
  Calls Tryz.prog 86 #[.slice (some ⟨g,0,none⟩) 4 4] w fun e w'=>e = .returned (.agg (sum4 a b c d).cells)∧Below w.heap.size w w':=by
 have HG:Hid (Blk w g (blk [a,b,c,d]) 58):=hg
 have lg:=HG.out.lt
 clear hg
 go_enter Tryz.func86,Tryz.ntmps86
 go_wp2
 go_loopw [4] (fun i wr=>∃ k:Nat,k≤2∧i = .int .i64 (2*k:Nat)∧Hid (Below w.heap.size w wr)∧Hid (Blk wr (w.heap.size+1) (sumAt a b c d k).cells 58)∧Hid (Blk wr w.heap.size (WI.of 0).cells 58)) (fun i _=>4-(intOf i).toNat)
 case atStart =>
  refine ⟨0,by omega,rfl,(show Below _ _ _ from below_byR),?_,?_⟩
  ·show Blk _ _ (WI.of 0).cells _;rw [← cellsI_0eq];exact Blk.new' _ _ _ (by simp)
  ·rw [← cellsI_0eq];exact (Blk.new _ _ _).alloc _
 case round =>
  obtain ⟨k,hk,rfl,HB,H1,H0⟩:=hrel
  rcases k with _|_|_|k
  ·have g1:wr.row? (w.heap.size+1) 0 18=some (WI.of 0).cells:=H1.out.row?_all 18 (by simp)
   have g2:wr.row? g 0 18=some a.cells:=by rw [(HG.out.keep HB.out).row? 0 18 (by simp)];simp
   have g3:wr.row? g 18 18=some b.cells:=by rw [(HG.out.keep HB.out).row? 18 18 (by simp)];simp
   have f1:=@inw_row _ _ _ _ _ g1
   have f2:=@inw_row _ _ _ _ _ g2
   have f3:=@inw_row _ _ _ _ _ g3
   go_wp2
   refine wp_region_fresh' 12 (fun _=>none) (fun _=>[]) (by kernel_rfl) (by kernel_rfl) ?_;refine ex_list ?_;apply Exists.intro;refine ex_list ?_;apply Exists.intro;refine ex_list ?_;apply Exists.intro;refine ex_list ?_;apply Exists.intro;refine ex_list ?_;apply Exists.intro;refine ex_list ?_;apply Exists.intro;refine ex_list ?_;apply Exists.intro;refine ex_list ?_;apply Exists.intro;refine ex_list ?_;apply Exists.intro;refine ex_list ?_;apply Exists.intro;refine ex_list ?_;apply Exists.intro;refine ex_list ?_;apply Exists.intro;refine ⟨[],fun gg NN hN=>?_⟩;simp only [List.take_succ_cons,List.take_zero,List.drop_succ_cons,List.drop_zero];(repeat (refine lexF_quiet rfl ?_;go_big_quiet_step (first|exact rfl|(first|exact calls_in (mul_I _ _ _)|exact calls_in (add_I _ _ _)));refine wpQuiet_nil ⟨rfl,?_⟩))
   refine lexF_nil ?_
   intro w' hb _ _
   have hb':Below wr.heap.size wr w':=hb
   have B1:=Lib.hid (H1.out.keep hb')
   have B0:=Lib.hid (H0.out.keep hb')
   have hp:w'.put? (w.heap.size+1) 0 ((WI.of 0).add (a.mul b)).cells=some (w'.putRow (w.heap.size+1) 0 ((WI.of 0).add (a.mul b)).cells):=B1.out.put? 0 _ (by simp) (by simp)
   go_wp2
   refine ⟨⟨1,by omega,rfl,?_,?_,?_⟩,by simp [intOf]⟩
   ·exact Below_putRow (Below.trans HB.out (hb'.mono HB.out.size)) (by omega) _ _
   ·exact (B1.out.putRow_same 0 _).of_eq (by rw [splice_all _ _ (by simp)];rfl)
   ·exact B0.out.putRow_other (by omega) 0 _
  ·have g1:wr.row? (w.heap.size+1) 0 18=some ((WI.of 0).add (a.mul b)).cells:=H1.out.row?_all 18 (by simp)
   have g2:wr.row? g 36 18=some c.cells:=by rw [(HG.out.keep HB.out).row? 36 18 (by simp)];simp
   have g3:wr.row? g 54 18=some d.cells:=by rw [(HG.out.keep HB.out).row? 54 18 (by simp)];simp
   have f1:=@inw_row _ _ _ _ _ g1
   have f2:=@inw_row _ _ _ _ _ g2
   have f3:=@inw_row _ _ _ _ _ g3
   go_wp2
   refine wp_region_fresh' 12 (fun _=>none) (fun _=>[]) (by kernel_rfl) (by kernel_rfl) ?_;refine ex_list ?_;apply Exists.intro;refine ex_list ?_;apply Exists.intro;refine ex_list ?_;apply Exists.intro;refine ex_list ?_;apply Exists.intro;refine ex_list ?_;apply Exists.intro;refine ex_list ?_;apply Exists.intro;refine ex_list ?_;apply Exists.intro;refine ex_list ?_;apply Exists.intro;refine ex_list ?_;apply Exists.intro;refine ex_list ?_;apply Exists.intro;refine ex_list ?_;apply Exists.intro;refine ex_list ?_;apply Exists.intro;refine ⟨[],fun gg NN hN=>?_⟩;simp only [List.take_succ_cons,List.take_zero,List.drop_succ_cons,List.drop_zero];(repeat (refine lexF_quiet rfl ?_;go_big_quiet_step (first|exact rfl|(first|exact calls_in (mul_I _ _ _)|exact calls_in (add_I _ _ _)));refine wpQuiet_nil ⟨rfl,?_⟩))
   refine lexF_nil ?_
   intro w' hb _ _
   have hb':Below wr.heap.size wr w':=hb
   have B1:=Lib.hid (H1.out.keep hb')
   have B0:=Lib.hid (H0.out.keep hb')
   have hp:w'.put? (w.heap.size+1) 0 (((WI.of 0).add (a.mul b)).add (c.mul d)).cells=some (w'.putRow (w.heap.size+1) 0 (((WI.of 0).add (a.mul b)).add (c.mul d)).cells):=B1.out.put? 0 _ (by simp) (by simp)
   go_wp2
   refine ⟨⟨2,by omega,rfl,?_,?_,?_⟩,by simp [intOf]⟩
   ·exact Below_putRow (Below.trans HB.out (hb'.mono HB.out.size)) (by omega) _ _
   ·exact (B1.out.putRow_same 0 _).of_eq (by rw [splice_all _ _ (by simp)];rfl)
   ·exact B0.out.putRow_other (by omega) 0 _
  ·have g1:wr.row? (w.heap.size+1) 0 18=some (sum4 a b c d).cells:=H1.out.row?_all 18 (by simp)
   have hp:wr.put? w.heap.size 0 (sum4 a b c d).cells=some (wr.putRow w.heap.size 0 (sum4 a b c d).cells):=H0.out.put? 0 _ (by simp) (by simp)
   have g2:=row_put hp (n:=18) (by simp)
   go_wp2
   exact bodyPost_row 18 (sum4 a b c d).cells rfl rfl rfl Tryz.underlying58 rfl info_Int g2 ⟨rfl,Below_putRow HB.out (Nat.le_refl _) _ _⟩
  ·omega
open Go.RowKit
structure Iq where
 A:Int
 B:Int
 D:Int
 U:Int
 V:Int
 Z:Int
 N:Int
def Iq.ws (i:Iq):List WI:=[WI.of i.A,WI.of i.B,WI.of i.D,WI.of i.U,WI.of i.V,WI.of i.Z,WI.of i.N]
def Iq.zero:Iq:=⟨0,0,0,0,0,0,0⟩
abbrev iqV (i:Iq):Value := .agg (blk i.ws)
theorem sum4_of {j:Nat} (a b c d:Int) (ha:Sm j a) (hb:Sm j b) (hc:Sm j c) (hd:Sm j d) (hj:j≤500):sum4 (WI.of a) (WI.of b) (WI.of c) (WI.of d)=WI.of (a*b+c*d):=by
 unfold sum4
 have h1:=ha.mul hb
 have h2:=hc.mul hd
 rw [WI.of_mul (ha.lim (by omega)) (hb.lim (by omega)),WI.of_mul (hc.lim (by omega)) (hd.lim (by omega)),
  WI.of_add (by simpa using lim_pos) (h1.lim (by omega)),Int.zero_add,WI.of_add (h1.lim (by omega)) (h2.lim (by omega))]
def ofEl (e:El):Iq:=⟨e.d,-e.b,e.a,e.d*e.x + -e.b*e.y,-e.b*e.x+e.a*e.y,e.d*(e.x*e.x)+e.a*(e.y*e.y)+(-e.b*(e.x*e.y) + -e.b*(e.x*e.y)),e.a*e.d-e.b*e.b⟩
def ofE (e:El):Iq × Int:=if e.may=true then (ofEl e,0) else (Iq.zero,1)
theorem adj_v (a b d a' b' d':Int) (h:adjV a b d=symV a' b' d') (w:World) :
  Calls Tryz.prog 83 #[symV a b d] w fun e w'=>e = .returned (symV a' b' d')∧Below w.heap.size w w':=by
 rw [← h];exact adj_c a b d w
theorem infoOf_main (x y a b d:Int) (he:El.may ⟨x,y,a,b,d⟩=true) (w:World) :
  Calls Tryz.prog 31 #[elC x y a b d] w fun e w'=>e = .returned (.tuple #[iqV (ofEl ⟨x,y,a,b,d⟩),.int .i64 0])∧Below w.heap.size w w':=by
 have m:=(El.may_iff _).1 he
 simp only at m
 obtain ⟨⟨m1,m2,m3,m4⟩,⟨m5,m6,m7,m8,m9,m10⟩,-⟩:=m
 have HE:=Lib.hid he
 obtain ⟨b',hb'⟩:∃ b',b' = -b:=⟨_,rfl⟩
 have HA:Hid (adjV a b d=symV d b' a):=by show _=_;unfold adjV;rw [if_pos (El.may_mat _ he),hb']
 have K:Hid (I64 x∧I64 y∧I64 a∧I64 b∧I64 d∧I64 b'):=by unfold Hid I64;omega
 have E1:Hid (sum4 (WI.of d) (WI.of x) (WI.of b') (WI.of y)=WI.of (d*x+b'*y)):=sum4_of (j:=63) _ _ _ _ (Sm.of64 (by omega) (by omega)) (Sm.of64 (by omega) (by omega)) (Sm.of64 (by omega) (by omega)) (Sm.of64 (by omega) (by omega)) (by decide)
 have E2:Hid (sum4 (WI.of b') (WI.of x) (WI.of a) (WI.of y)=WI.of (b'*x+a*y)):=sum4_of (j:=63) _ _ _ _ (Sm.of64 (by omega) (by omega)) (Sm.of64 (by omega) (by omega)) (Sm.of64 (by omega) (by omega)) (Sm.of64 (by omega) (by omega)) (by decide)
 have EF:Hid ((ofEl ⟨x,y,a,b,d⟩).ws = [WI.of d,WI.of b',WI.of a,WI.of (d*x+b'*y),WI.of (b'*x+a*y),WI.of (d*(x*x)+a*(y*y)+(b'*(x*y)+b'*(x*y))),WI.of (a*d-b*b)]):=by
  show _=_;rw [hb'];rfl
 clear he hb' m1 m2 m3 m4 m5 m6 m7 m8 m9 m10
 go_enter Tryz.func31,Tryz.ntmps31
 go_wp2_with fail
 refine (ellmay_c _ _ _ _ _ _).mono ?_;rintro e w1 ⟨rfl,hb1⟩;rw [HE.out];have z_w1:=hb1.size;(try simp at z_w1);obtain ⟨yw1aa,cw1aa,fw1aa,rw1aa,tw1aa,pw1aa⟩:=bq hb1 (w.heap.size);obtain ⟨yw1ab,cw1ab,fw1ab,rw1ab,tw1ab,pw1ab⟩:=bq hb1 (w.heap.size+1)
 go_wp2_with fail
 refine (adj_v _ _ _ _ _ _ HA.out _).mono ?_;rintro e w2 ⟨rfl,hb2⟩;have z_w2:=hb2.size;(try simp at z_w2);obtain ⟨yw2aa,cw2aa,fw2aa,rw2aa,tw2aa,pw2aa⟩:=bq hb2 (w.heap.size);obtain ⟨yw2ab,cw2ab,fw2ab,rw2ab,tw2ab,pw2ab⟩:=bq hb2 (w.heap.size+1)
 go_wp2_with fail
 obtain ⟨w3,hw3⟩:∃ w3,w3=w2.alloc (Obj.cells #[.int .i64 d,.int .i64 b',.int .i64 a] 25):=⟨_,rfl⟩
 rw [← hw3]
 have hb3:Below w2.heap.size w2 w3:=by rw [hw3];exact below_byR
 have z_w3:=hb3.size;(try simp at z_w3);obtain ⟨yw3aa,cw3aa,fw3aa,rw3aa,tw3aa,pw3aa⟩:=bq hb3 (w.heap.size);obtain ⟨yw3ab,cw3ab,fw3ab,rw3ab,tw3ab,pw3ab⟩:=bq hb3 (w.heap.size+1)
 have B4:Hid (Blk w3 w2.heap.size #[.int .i64 d,.int .i64 b',.int .i64 a] 25):=by rw [hw3];exact Blk.new _ _ _
 clear hw3
 have c0:=@inw_cell _ _ _ (show w3.cell? ⟨w.heap.size,0,none⟩=some (.int .i64 x) from (by go_simp));have c1:=@inw_cell _ _ _ (show w3.cell? ⟨w.heap.size,1,none⟩=some (.int .i64 y) from (by go_simp));have c2:=@inw_cell _ _ _ (show w3.cell? ⟨w.heap.size,2,none⟩=some (.int .i64 a) from (by go_simp));have c3:=@inw_cell _ _ _ (show w3.cell? ⟨w.heap.size,3,none⟩=some (.int .i64 b) from (by go_simp));have c4:=@inw_cell _ _ _ (show w3.cell? ⟨w.heap.size,4,none⟩=some (.int .i64 d) from (by go_simp))
 go_cut [5,6] from 7 (fun s5 s6 wc=>∃ g h,s5 = .pointer (some ⟨g,0,none⟩)∧s6 = .pointer (some ⟨h,0,none⟩)∧w3.heap.size≤g∧w3.heap.size≤h∧wc.row? g 0 18=some (WI.of x).cells∧wc.row? h 0 18=some (WI.of y).cells∧Hid (Below w3.heap.size w3 wc))
 case first =>
  refine wp_region_fresh' 10 (fun k=>match k with|8=>some ⟨.cells (cellsI false false 0) 58,fun g => .pointer (some ⟨g,0,none⟩)⟩|9=>some ⟨.cells (cellsI false false 0) 58,fun g => .pointer (some ⟨g,0,none⟩)⟩|_=>none) (fun _=>[]) (by kernel_rfl) (by kernel_rfl) ?_;refine ex_list ?_;apply Exists.intro;refine ex_list ?_;apply Exists.intro;refine ex_list ?_;apply Exists.intro;refine ex_list ?_;apply Exists.intro;refine ex_list ?_;apply Exists.intro;refine ex_list ?_;apply Exists.intro;refine ex_list ?_;apply Exists.intro;refine ex_list ?_;apply Exists.intro;refine ex_list ⟨undef,?_⟩;refine ex_list ⟨undef,?_⟩;refine ⟨[],fun gg NN hN=>?_⟩;simp only [List.take_succ_cons,List.take_zero,List.drop_succ_cons,List.drop_zero];(repeat (first|(refine lexF_quiet rfl ?_;go_big_quiet_step (first|exact rfl|(exact calls_in (of_c _ (by first|exact K.out.1.1|exact K.out.2.1.1) (by first|exact K.out.1.2|exact K.out.2.1.2) _)));refine wpQuiet_nil ⟨rfl,?_⟩)|(refine lexF_fresh _ (by rfl) (by rfl) ?hex ?_;(case hex=>(intro wx;first|(go_simp;done)|(go_simp;rfl)));simp only [Act.put,List.setIfInBounds_toArray,List.set_cons_succ,List.set_cons_zero])))
  refine lexF_nil ?_
  intro w4 hb4' hh hd
  have hb4:Below w3.heap.size w3 w4:=hb4'
  obtain ⟨l8,e8⟩:=hh 8 _ (by decide) rfl
  obtain ⟨l9,e9⟩:=hh 9 _ (by decide) rfl
  have ne:gg 8≠gg 9:=hd 8 9 (by decide) (by decide) rfl rfl (by decide)
  clear hh hd hb4'
  have G8:Hid (Blk w4 (gg 8) (cellsI false false 0) 58):=e8
  have G9:Hid (Blk w4 (gg 9) (cellsI false false 0) 58):=e9
  have hp8:w4.put? (gg 8) 0 (WI.of x).cells=some (w4.putRow (gg 8) 0 (WI.of x).cells):=G8.out.put? 0 _ (by simp) (by simp)
  have hp9:(w4.putRow (gg 8) 0 (WI.of x).cells).put? (gg 9) 0 (WI.of y).cells=some ((w4.putRow (gg 8) 0 (WI.of x).cells).putRow (gg 9) 0 (WI.of y).cells):=(G9.out.putRow_other (Ne.symm ne) 0 _).put? 0 _ (by simp) (by simp)
  clear e8 e9
  go_wp2_with fail
  go_meet
  refine ⟨gg 8,gg 9,rfl,rfl,l8,l9,?_,?_,?_⟩
  ·rw [((G8.out.putRow_same 0 (WI.of x).cells).putRow_other ne 0 _).row? 0 18 (by simp)];simp
  ·rw [((G9.out.putRow_other (Ne.symm ne) 0 (WI.of x).cells).putRow_same 0 _).row? 0 18 (by simp)];simp
  ·exact Below_putRow (Below_putRow hb4 l8 _ _) l9 _ _
 case rest =>
  obtain ⟨g5,g6,rfl,rfl,l5,l6,r5,r6,HB4⟩:=hcut
  have hb4:=HB4.out
  have z_wc:=hb4.size;(try simp at z_wc);obtain ⟨y_wc_0_0,c_wc_0_0,f_wc_0_0,r_wc_0_0,t_wc_0_0,p_wc_0_0⟩:=bq hb4 (w.heap.size);obtain ⟨y_wc_0_1,c_wc_0_1,f_wc_0_1,r_wc_0_1,t_wc_0_1,p_wc_0_1⟩:=bq hb4 (w.heap.size+1)
  have B5:=Lib.hid (B4.out.keep hb4)
  have e0:=@inw_cell _ _ _ (show wc.cell? ⟨w.heap.size,0,none⟩=some (.int .i64 x) from (by go_simp));have e1:=@inw_cell _ _ _ (show wc.cell? ⟨w.heap.size,1,none⟩=some (.int .i64 y) from (by go_simp));have e2:=@inw_cell _ _ _ (show wc.cell? ⟨w.heap.size,2,none⟩=some (.int .i64 a) from (by go_simp));have e3:=@inw_cell _ _ _ (show wc.cell? ⟨w.heap.size,3,none⟩=some (.int .i64 b) from (by go_simp));have e4:=@inw_cell _ _ _ (show wc.cell? ⟨w.heap.size,4,none⟩=some (.int .i64 d) from (by go_simp))
  have t0:=@inw_cell _ _ _ (B5.out.cell (i:=0) rfl)
  have t1:=@inw_cell _ _ _ (B5.out.cell (i:=1) rfl)
  have t2:=@inw_cell _ _ _ (B5.out.cell (i:=2) rfl)
  go_wp2_with fail
  go_cut [7] from 8 (fun s7 wd=>∃ g7,s7 = .pointer (some ⟨g7,0,none⟩)∧wc.heap.size≤g7∧Hid (Blk wd g7 (blk [WI.of d,WI.of b',WI.of a,WI.of 0,WI.of 0,WI.of (d*(x*x)+a*(y*y)+(b'*(x*y)+b'*(x*y))),WI.of (a*d-b*b)]) 60)∧Hid (Below wc.heap.size wc wd))
  case first =>
   refine wp_region_fresh' 18 (fun k=>match k with|17=>some ⟨.cells (blk [WI.of 0,WI.of 0,WI.of 0,WI.of 0,WI.of 0,WI.of 0,WI.of 0]) 60,fun g => .pointer (some ⟨g,0,none⟩)⟩|_=>none) (fun _=>[]) (by kernel_rfl) (by kernel_rfl) ?_;refine ex_list ?_;apply Exists.intro;refine ex_list ?_;apply Exists.intro;refine ex_list ?_;apply Exists.intro;refine ex_list ?_;apply Exists.intro;refine ex_list ?_;apply Exists.intro;refine ex_list ?_;apply Exists.intro;refine ex_list ?_;apply Exists.intro;refine ex_list ?_;apply Exists.intro;refine ex_list ?_;apply Exists.intro;refine ex_list ?_;apply Exists.intro;refine ex_list ?_;apply Exists.intro;refine ex_list ?_;apply Exists.intro;refine ex_list ?_;apply Exists.intro;refine ex_list ?_;apply Exists.intro;refine ex_list ?_;apply Exists.intro;refine ex_list ?_;apply Exists.intro;refine ex_list ?_;apply Exists.intro;refine ex_list ⟨undef,?_⟩;refine ⟨[],fun gg NN hN=>?_⟩;simp only [List.take_succ_cons,List.take_zero,List.drop_succ_cons,List.drop_zero];(repeat (first|(refine lexF_quiet rfl ?_;go_big_quiet_step (first|exact rfl|(first|exact calls_in (of_c _ (by first|exact K.out.2.2.1.1|exact K.out.2.2.2.2.1.1|exact K.out.2.2.2.2.2.1) (by first|exact K.out.2.2.1.2|exact K.out.2.2.2.2.1.2|exact K.out.2.2.2.2.2.2) _)|exact calls_in (quad_c d b' a x y K.out.2.2.2.2.1 K.out.2.2.2.2.2 K.out.2.2.1 K.out.1 K.out.2.1 _)|exact calls_in (matdet_c a b d K.out.2.2.1 K.out.2.2.2.1 K.out.2.2.2.2.1 _)));refine wpQuiet_nil ⟨rfl,?_⟩)|(refine lexF_fresh _ (by rfl) (by rfl) ?hex ?_;(case hex=>(intro wx;first|(go_simp;done)|(go_simp;rfl)));simp only [Act.put,List.setIfInBounds_toArray,List.set_cons_succ,List.set_cons_zero])))
   refine lexF_nil ?_
   intro w5 hb5' hh _
   have hb5:Below wc.heap.size wc w5:=hb5'
   obtain ⟨l17,e17⟩:=hh 17 _ (by decide) rfl
   clear hh hb5'
   have G17:Hid (Blk w5 (gg 17) (blk [WI.of 0,WI.of 0,WI.of 0,WI.of 0,WI.of 0,WI.of 0,WI.of 0]) 60):=e17
   obtain ⟨L,hL⟩:∃ L,L = [WI.of d,WI.of b',WI.of a,WI.of 0,WI.of 0,WI.of (d*(x*x)+a*(y*y)+(b'*(x*y)+b'*(x*y))),WI.of (a*d-b*b)]:=⟨_,rfl⟩
   have hl:L.length=7:=by rw [hL];rfl
   rw [← hL]
   have HL:=Lib.hid hL
   clear hL
   have hp:w5.put? (gg 17) 0 (blk L)=some (w5.putRow (gg 17) 0 (blk L)):=G17.out.put? 0 _ (by simp [hl]) (by simp)
   clear e17
   go_wp2_with fail
   go_meet
   rw [← HL.out]
   exact ⟨gg 17,rfl,l17,(G17.out.putRow_same 0 _).of_eq (splice_all _ _ (by simp [hl])),Below_putRow hb5 l17 _ _⟩
  case rest =>
   obtain ⟨g7,rfl,l7,H7,HBD⟩:=hcut
   have hbd:=HBD.out
   have z_wd:=hbd.size;(try simp at z_wd);obtain ⟨y_wd_0_0,c_wd_0_0,f_wd_0_0,r_wd_0_0,t_wd_0_0,p_wd_0_0⟩:=bq hbd (w.heap.size);obtain ⟨y_wd_0_1,c_wd_0_1,f_wd_0_1,r_wd_0_1,t_wd_0_1,p_wd_0_1⟩:=bq hbd (w.heap.size+1)
   have s5:=@inw_row _ _ _ _ _ ((Below.row? hbd g5 0 18 (row_lt r5)).trans r5)
   have s6:=@inw_row _ _ _ _ _ ((Below.row? hbd g6 0 18 (row_lt r6)).trans r6)
   have q0:=@inw_row _ _ _ _ _ ((H7.out.row? 0 18 (by simp)).trans (congrArg some (blk_x0 _ _)))
   have q1:=@inw_row _ _ _ _ _ ((H7.out.row? 18 18 (by simp)).trans (congrArg some (blk_x1 _ _ _)))
   have q2:=@inw_row _ _ _ _ _ ((H7.out.row? 36 18 (by simp)).trans (congrArg some (blk_x2 _ _ _ _)))
   go_wp2_with fail
   refine wp_region_fresh' 17 (fun k=>match k with|6=>some ⟨.cells (blk [WI.of d,WI.of x,WI.of b',WI.of y]) 58,fun g => .slice (some ⟨g,0,none⟩) 4 4⟩|14=>some ⟨.cells (blk [WI.of b',WI.of x,WI.of a,WI.of y]) 58,fun g => .slice (some ⟨g,0,none⟩) 4 4⟩|_=>none) (fun k=>match k with|7=>[6]|15=>[14]|_=>[]) (by kernel_rfl) (by kernel_rfl) ?_;refine ex_list ?_;apply Exists.intro;refine ex_list ?_;apply Exists.intro;refine ex_list ?_;apply Exists.intro;refine ex_list ?_;apply Exists.intro;refine ex_list ?_;apply Exists.intro;refine ex_list ?_;apply Exists.intro;refine ex_list ⟨undef,?_⟩;refine ex_list ?_;apply Exists.intro;refine ex_list ?_;apply Exists.intro;refine ex_list ?_;apply Exists.intro;refine ex_list ?_;apply Exists.intro;refine ex_list ?_;apply Exists.intro;refine ex_list ?_;apply Exists.intro;refine ex_list ?_;apply Exists.intro;refine ex_list ⟨undef,?_⟩;refine ex_list ?_;apply Exists.intro;refine ex_list ?_;apply Exists.intro;refine ⟨[],fun gg NN hN=>?_⟩;simp only [List.take_succ_cons,List.take_zero,List.drop_succ_cons,List.drop_zero];(repeat (first|(refine lexF_quiet rfl ?_;go_big_quiet_step (first|exact rfl|(rename_i px;first|exact calls_in (sum4_c _ _ _ _ _ _ (px.has 6 (hN 7 6 (by simp)) _ rfl).2)|exact calls_in (sum4_c _ _ _ _ _ _ (px.has 14 (hN 15 14 (by simp)) _ rfl).2)));refine wpQuiet_nil ⟨rfl,?_⟩)|(refine lexF_fresh _ (by rfl) (by rfl) ?hex ?_;(case hex=>(intro wx;first|(go_simp;done)|(go_simp;rfl)));simp only [Act.put,List.setIfInBounds_toArray,List.set_cons_succ,List.set_cons_zero])))
   refine lexF_nil ?_
   intro w6 hb6' hh hd
   clear hh hd
   have hb6:Below wc.heap.size wc w6:=hb6'
   clear hb6'
   have z_w6:=hb6.size;(try simp at z_w6);obtain ⟨yw6aa,cw6aa,fw6aa,rw6aa,tw6aa,pw6aa⟩:=bq hb6 (w.heap.size);obtain ⟨yw6ab,cw6ab,fw6ab,rw6ab,tw6ab,pw6ab⟩:=bq hb6 (w.heap.size+1)
   have F6:w6.fits (w.heap.size+1) 126=true:=by go_simp
   have B7:=Lib.hid (H7.out.keep hb6)
   have n7:w.heap.size+1≠g7:=by omega
   have hpU:=B7.out.put? 54 (sum4 (WI.of d) (WI.of x) (WI.of b') (WI.of y)).cells (by simp) (by simp)
   have B8:=Lib.hid ((B7.out.putRow_same 54 (sum4 (WI.of d) (WI.of x) (WI.of b') (WI.of y)).cells).of_eq (blk_s3 _ _ _ _ _ _))
   have hpV:=B8.out.put? 72 (sum4 (WI.of b') (WI.of x) (WI.of a) (WI.of y)).cells (by simp) (by simp)
   have B9:=Lib.hid ((B8.out.putRow_same 72 (sum4 (WI.of b') (WI.of x) (WI.of a) (WI.of y)).cells).of_eq (blk_s4 _ _ _ _ _ _ _))
   have r9:=B9.out.row?_all 126 (by simp)
   have F9:((w6.putRow g7 54 (sum4 (WI.of d) (WI.of x) (WI.of b') (WI.of y)).cells).putRow g7 72 (sum4 (WI.of b') (WI.of x) (WI.of a) (WI.of y)).cells).fits (w.heap.size+1) 126=true:=by
    rw [fits_putRow _ _ _ _ _ n7,fits_putRow _ _ _ _ _ n7];exact F6
   have hpR:=put?_fits (o:=0) (cs:=blk [WI.of d,WI.of b',WI.of a,sum4 (WI.of d) (WI.of x) (WI.of b') (WI.of y),sum4 (WI.of b') (WI.of x) (WI.of a) (WI.of y),WI.of (d*(x*x)+a*(y*y)+(b'*(x*y)+b'*(x*y))),WI.of (a*d-b*b)]) (by simpa using F9) (by simp)
   have rR:=row_put hpR (n:=126) (by simp)
   clear c0 c1 c2 c3 c4 e0 e1 e2 e3 e4 t0 t1 t2 s5 s6 q0 q1 q2
   go_wp2_with fail
   exact bodyPost_row_t 126 _ (.int .i64 0) rfl rfl rfl rfl Tryz.underlying60 rfl info_Info rR ⟨by rw [iqV,EF.out,E1.out,E2.out],below_byR⟩
theorem infoOf_c (e:El) (w:World) :
  Calls Tryz.prog 31 #[elV e] w fun r w'=>r = .returned (.tuple #[iqV (ofE e).1,.int .i64 (ofE e).2])∧Below w.heap.size w w':=by
 obtain ⟨x,y,a,b,d⟩:=e
 cases he:El.may ⟨x,y,a,b,d⟩ with
 | true =>
  have:ofE ⟨x,y,a,b,d⟩=(ofEl ⟨x,y,a,b,d⟩,0):=by unfold ofE;rw [if_pos he]
  rw [this];exact infoOf_main x y a b d he w
 | false =>
  have HE:=Lib.hid he
  have E:Hid (ofE ⟨x,y,a,b,d⟩=(Iq.zero,1)):=by show _=_;unfold ofE;rw [if_neg (by rw [he];decide)]
  clear he
  show Calls Tryz.prog 31 #[elC x y a b d] w _
  go_enter Tryz.func31,Tryz.ntmps31
  go_wp2_with fail
  refine (ellmay_c _ _ _ _ _ _).mono ?_;rintro e w1 ⟨rfl,hb1⟩;rw [HE.out];have z_w1:=hb1.size;(try simp at z_w1);obtain ⟨yw1aa,cw1aa,fw1aa,rw1aa,tw1aa,pw1aa⟩:=bq hb1 (w.heap.size);obtain ⟨yw1ab,cw1ab,fw1ab,rw1ab,tw1ab,pw1ab⟩:=bq hb1 (w.heap.size+1)
  have F1:w1.fits (w.heap.size+1) 126=true:=by go_simp
  have hpR:=put?_fits (o:=0) (cs:=blk [WI.of 0,WI.of 0,WI.of 0,WI.of 0,WI.of 0,WI.of 0,WI.of 0]) (by simpa using F1) (by simp)
  have rR:=row_put hpR (n:=126) (by simp)
  go_wp2_with fail
  exact bodyPost_row_t 126 _ (.int .i64 1) rfl rfl rfl rfl Tryz.underlying60 rfl info_Info rR ⟨by rw [E.out];rfl,below_byR⟩
open Go.RowKit
structure St where
 ox:Int
 oy:Int
 hx:Int
 hy:Int
 lo:Int
 hi:Int
abbrev stV (s:St):Value:=stC s.ox s.oy s.hx s.hy s.lo s.hi
def St.may (s:St):Bool:=mayPt s.ox s.oy&&(withinB s.hx s.hy 16777216&&(!(decide (s.hx=0)&&decide (s.hy=0))&&(decide (-1125899906842624≤s.lo)&&(decide (s.lo<s.hi)&&decide (s.hi≤1125899906842624)))))
theorem withinB_iff (x y m:Int):withinB x y m=true ↔ -m≤x∧x≤m ∧ -m≤y∧y≤m:=by unfold withinB;simp
theorem St.may_iff (s:St):s.may=true↔(-4194304≤s.ox∧s.ox≤4194304 ∧ -4194304≤s.oy∧s.oy≤4194304)∧(-16777216≤s.hx∧s.hx≤16777216 ∧ -16777216≤s.hy∧s.hy≤16777216)∧¬ (s.hx=0∧s.hy=0) ∧ -1125899906842624≤s.lo∧s.lo<s.hi∧s.hi≤1125899906842624:=by
 unfold St.may;simp only [Bool.and_eq_true,mayPt_iff,withinB_iff,decide_eq_true_eq,Bool.not_eq_true',Bool.and_eq_false_iff,decide_eq_false_iff_not]
 constructor
 ·rintro ⟨a,b,c,d⟩;exact ⟨a,b,by omega,by omega⟩
 ·rintro ⟨a,b,c,d⟩;exact ⟨a,b,by omega,by omega⟩
theorem iwithin_c (x y m:Int) (hm:0≤m∧m≤9223372036854775807) (w:World) :
  Calls Tryz.prog 96 #[ptV x y,.int .i64 m] w fun e w'=>e = .returned (.bool (withinB x y m))∧Below w.heap.size w w':=by
 have W1:IntKind.i64.wrap (-m) = -m:=by rw [IntKind.wrap_i64];omega
 have E:withinB x y m=(decide (-m≤x)&&(decide (x≤m)&&(decide (-m≤y)&&decide (y≤m)))):=by unfold withinB;simp
 by_cases h1 : -m≤x
 ·by_cases h2:x≤m
  ·by_cases h3 : -m≤y
   ·have EV:Hid (withinB x y m=decide (y≤m)):=by show _=_;rw [E];simp [h1,h2,h3]
    clear E
    go_enter Tryz.func96,Tryz.ntmps96
    go_wp2
    go_ret
    exact ⟨by rw [EV.out];rfl,below_byR⟩
   ·have EV:Hid (withinB x y m=false):=by show _=_;rw [E];simp [h1,h2,h3]
    clear E
    go_enter Tryz.func96,Tryz.ntmps96
    go_wp2
    go_ret
    exact ⟨by rw [EV.out];rfl,below_byR⟩
  ·have EV:Hid (withinB x y m=false):=by show _=_;rw [E];simp [h1,h2]
   clear E
   go_enter Tryz.func96,Tryz.ntmps96
   go_wp2
   go_ret
   exact ⟨by rw [EV.out];rfl,below_byR⟩
 ·have EV:Hid (withinB x y m=false):=by show _=_;rw [E];simp [h1]
  clear E
  go_enter Tryz.func96,Tryz.ntmps96
  go_wp2
  go_ret
  exact ⟨by rw [EV.out];rfl,below_byR⟩
theorem strip_cases (m n:Bool) (a b lo hi:Int):(m=false)∨(m=true∧n=false)∨(m=true∧n=true∧(a=0∧b=0))∨(m=true∧n=true∧¬ (a=0∧b=0)∧¬ -1125899906842624≤lo)∨(m=true∧n=true∧¬ (a=0∧b=0) ∧ -1125899906842624≤lo∧¬ lo<hi) ∨
  (m=true∧n=true∧¬ (a=0∧b=0) ∧ -1125899906842624≤lo∧lo<hi):=by
 cases m <;> cases n <;> simp <;> omega
theorem mayStrip_c (a b c d lo hi:Int) (w:World) :
  Calls Tryz.prog 36 #[stC a b c d lo hi] w fun e w'=>e = .returned (.bool (St.may ⟨a,b,c,d,lo,hi⟩))∧Below w.heap.size w w':=by
 obtain ⟨m,hm⟩:∃ m,m=mayPt a b:=⟨_,rfl⟩
 obtain ⟨n,hn⟩:∃ m,m=withinB c d 16777216:=⟨_,rfl⟩
 have E:St.may ⟨a,b,c,d,lo,hi⟩=(m&&(n&&(!(decide (c=0)&&decide (d=0))&&(decide (-1125899906842624≤lo)&&(decide (lo<hi)&&decide (hi≤1125899906842624)))))):=by rw [hm,hn];rfl
 have HM:=Lib.hid hm.symm
 have HN:=Lib.hid hn.symm
 clear hm hn
 rcases strip_cases m n c d lo hi with h0|⟨h0,h1⟩|⟨h0,h1,h2,h3⟩|⟨h0,h1,h2,h3⟩|⟨h0,h1,h2,h3,h4⟩|⟨h0,h1,h2,h3,h4⟩
 case inl =>
  subst h0
  have EV:Hid (St.may ⟨a,b,c,d,lo,hi⟩=false):=by show _=_;rw [E];rfl
  clear E
  go_enter Tryz.func36,Tryz.ntmps36
  go_wp2_with fail
  refine (maypt_c _ _ _).mono ?_;rintro e w1 ⟨rfl,hb1⟩;rw [HM.out];have z_w1:=hb1.size;(try simp at z_w1);obtain ⟨yw1aa,cw1aa,fw1aa,rw1aa,tw1aa,pw1aa⟩:=bq hb1 (w.heap.size)
  go_wp2
  go_ret
  exact ⟨by rw [EV.out];rfl,below_byR⟩
 case inr.inl =>
  subst h0;subst h1
  have EV:Hid (St.may ⟨a,b,c,d,lo,hi⟩=false):=by show _=_;rw [E];rfl
  clear E
  go_enter Tryz.func36,Tryz.ntmps36
  go_wp2_with fail
  refine (maypt_c _ _ _).mono ?_;rintro e w1 ⟨rfl,hb1⟩;rw [HM.out];have z_w1:=hb1.size;(try simp at z_w1);obtain ⟨yw1aa,cw1aa,fw1aa,rw1aa,tw1aa,pw1aa⟩:=bq hb1 (w.heap.size)
  go_wp2_with fail
  refine (iwithin_c _ _ _ (by decide) _).mono ?_;rintro e w2 ⟨rfl,hb2⟩;rw [HN.out];have z_w2:=hb2.size;(try simp at z_w2);obtain ⟨yw2aa,cw2aa,fw2aa,rw2aa,tw2aa,pw2aa⟩:=bq hb2 (w.heap.size)
  go_wp2
  go_ret
  exact ⟨by rw [EV.out];rfl,below_byR⟩
 case inr.inr.inl =>
  subst h0;subst h1;subst h2;subst h3
  have EV:Hid (St.may ⟨a,b,0,0,lo,hi⟩=false):=by show _=_;rw [E];rfl
  clear E
  go_enter Tryz.func36,Tryz.ntmps36
  go_wp2_with fail
  refine (maypt_c _ _ _).mono ?_;rintro e w1 ⟨rfl,hb1⟩;rw [HM.out];have z_w1:=hb1.size;(try simp at z_w1);obtain ⟨yw1aa,cw1aa,fw1aa,rw1aa,tw1aa,pw1aa⟩:=bq hb1 (w.heap.size)
  go_wp2_with fail
  refine (iwithin_c _ _ _ (by decide) _).mono ?_;rintro e w2 ⟨rfl,hb2⟩;rw [HN.out];have z_w2:=hb2.size;(try simp at z_w2);obtain ⟨yw2aa,cw2aa,fw2aa,rw2aa,tw2aa,pw2aa⟩:=bq hb2 (w.heap.size)
  go_wp2
  go_ret
  exact ⟨by rw [EV.out];rfl,below_byR⟩
 case inr.inr.inr.inl =>
  subst h0;subst h1
  have EV:Hid (St.may ⟨a,b,c,d,lo,hi⟩=false):=by
   have n1:(decide (c=0)&&decide (d=0))=false:=by rw [Bool.and_eq_false_iff,decide_eq_false_iff_not,decide_eq_false_iff_not];omega
   show _=_;rw [E,n1,decide_eq_false h3];simp
  have n3:c=0→¬ d=0:=fun h h'=>h2 ⟨h,h'⟩
  clear E
  rcases Decidable.em (c=0) with hc|hc
  ·subst hc
   have hd:¬ d=0:=n3 rfl
   clear n3 h2
   go_enter Tryz.func36,Tryz.ntmps36
   go_wp2_with fail
   refine (maypt_c _ _ _).mono ?_;rintro e w1 ⟨rfl,hb1⟩;rw [HM.out];have z_w1:=hb1.size;(try simp at z_w1);obtain ⟨yw1aa,cw1aa,fw1aa,rw1aa,tw1aa,pw1aa⟩:=bq hb1 (w.heap.size)
   go_wp2_with fail
   refine (iwithin_c _ _ _ (by decide) _).mono ?_;rintro e w2 ⟨rfl,hb2⟩;rw [HN.out];have z_w2:=hb2.size;(try simp at z_w2);obtain ⟨yw2aa,cw2aa,fw2aa,rw2aa,tw2aa,pw2aa⟩:=bq hb2 (w.heap.size)
   go_wp2_with fail
   go_ret
   exact ⟨by rw [EV.out];rfl,below_byR⟩
  ·clear n3 h2
   go_enter Tryz.func36,Tryz.ntmps36
   go_wp2_with fail
   refine (maypt_c _ _ _).mono ?_;rintro e w1 ⟨rfl,hb1⟩;rw [HM.out];have z_w1:=hb1.size;(try simp at z_w1);obtain ⟨yw1aa,cw1aa,fw1aa,rw1aa,tw1aa,pw1aa⟩:=bq hb1 (w.heap.size)
   go_wp2_with fail
   refine (iwithin_c _ _ _ (by decide) _).mono ?_;rintro e w2 ⟨rfl,hb2⟩;rw [HN.out];have z_w2:=hb2.size;(try simp at z_w2);obtain ⟨yw2aa,cw2aa,fw2aa,rw2aa,tw2aa,pw2aa⟩:=bq hb2 (w.heap.size)
   go_wp2_with fail
   go_ret
   exact ⟨by rw [EV.out];rfl,below_byR⟩
 case inr.inr.inr.inr.inl =>
  subst h0;subst h1
  have EV:Hid (St.may ⟨a,b,c,d,lo,hi⟩=false):=by
   have n1:(decide (c=0)&&decide (d=0))=false:=by rw [Bool.and_eq_false_iff,decide_eq_false_iff_not,decide_eq_false_iff_not];omega
   show _=_;rw [E,n1,decide_eq_true h3,decide_eq_false h4];simp
  have n3:c=0→¬ d=0:=fun h h'=>h2 ⟨h,h'⟩
  clear E
  rcases Decidable.em (c=0) with hc|hc
  ·subst hc
   have hd:¬ d=0:=n3 rfl
   clear n3 h2
   go_enter Tryz.func36,Tryz.ntmps36
   go_wp2_with fail
   refine (maypt_c _ _ _).mono ?_;rintro e w1 ⟨rfl,hb1⟩;rw [HM.out];have z_w1:=hb1.size;(try simp at z_w1);obtain ⟨yw1aa,cw1aa,fw1aa,rw1aa,tw1aa,pw1aa⟩:=bq hb1 (w.heap.size)
   go_wp2_with fail
   refine (iwithin_c _ _ _ (by decide) _).mono ?_;rintro e w2 ⟨rfl,hb2⟩;rw [HN.out];have z_w2:=hb2.size;(try simp at z_w2);obtain ⟨yw2aa,cw2aa,fw2aa,rw2aa,tw2aa,pw2aa⟩:=bq hb2 (w.heap.size)
   go_wp2_with fail
   go_ret
   exact ⟨by rw [EV.out];rfl,below_byR⟩
  ·clear n3 h2
   go_enter Tryz.func36,Tryz.ntmps36
   go_wp2_with fail
   refine (maypt_c _ _ _).mono ?_;rintro e w1 ⟨rfl,hb1⟩;rw [HM.out];have z_w1:=hb1.size;(try simp at z_w1);obtain ⟨yw1aa,cw1aa,fw1aa,rw1aa,tw1aa,pw1aa⟩:=bq hb1 (w.heap.size)
   go_wp2_with fail
   refine (iwithin_c _ _ _ (by decide) _).mono ?_;rintro e w2 ⟨rfl,hb2⟩;rw [HN.out];have z_w2:=hb2.size;(try simp at z_w2);obtain ⟨yw2aa,cw2aa,fw2aa,rw2aa,tw2aa,pw2aa⟩:=bq hb2 (w.heap.size)
   go_wp2_with fail
   go_ret
   exact ⟨by rw [EV.out];rfl,below_byR⟩
 case inr.inr.inr.inr.inr =>
  subst h0;subst h1
  have EV:Hid (St.may ⟨a,b,c,d,lo,hi⟩=decide (hi≤1125899906842624)):=by
   have n1:(decide (c=0)&&decide (d=0))=false:=by rw [Bool.and_eq_false_iff,decide_eq_false_iff_not,decide_eq_false_iff_not];omega
   show _=_;rw [E,n1,decide_eq_true h3,decide_eq_true h4];simp
  have n3:c=0→¬ d=0:=fun h h'=>h2 ⟨h,h'⟩
  clear E
  rcases Decidable.em (c=0) with hc|hc
  ·subst hc
   have hd:¬ d=0:=n3 rfl
   clear n3 h2
   go_enter Tryz.func36,Tryz.ntmps36
   go_wp2_with fail
   refine (maypt_c _ _ _).mono ?_;rintro e w1 ⟨rfl,hb1⟩;rw [HM.out];have z_w1:=hb1.size;(try simp at z_w1);obtain ⟨yw1aa,cw1aa,fw1aa,rw1aa,tw1aa,pw1aa⟩:=bq hb1 (w.heap.size)
   go_wp2_with fail
   refine (iwithin_c _ _ _ (by decide) _).mono ?_;rintro e w2 ⟨rfl,hb2⟩;rw [HN.out];have z_w2:=hb2.size;(try simp at z_w2);obtain ⟨yw2aa,cw2aa,fw2aa,rw2aa,tw2aa,pw2aa⟩:=bq hb2 (w.heap.size)
   go_wp2_with fail
   go_ret
   exact ⟨by rw [EV.out];rfl,below_byR⟩
  ·clear n3 h2
   go_enter Tryz.func36,Tryz.ntmps36
   go_wp2_with fail
   refine (maypt_c _ _ _).mono ?_;rintro e w1 ⟨rfl,hb1⟩;rw [HM.out];have z_w1:=hb1.size;(try simp at z_w1);obtain ⟨yw1aa,cw1aa,fw1aa,rw1aa,tw1aa,pw1aa⟩:=bq hb1 (w.heap.size)
   go_wp2_with fail
   refine (iwithin_c _ _ _ (by decide) _).mono ?_;rintro e w2 ⟨rfl,hb2⟩;rw [HN.out];have z_w2:=hb2.size;(try simp at z_w2);obtain ⟨yw2aa,cw2aa,fw2aa,rw2aa,tw2aa,pw2aa⟩:=bq hb2 (w.heap.size)
   go_wp2_with fail
   go_ret
   exact ⟨by rw [EV.out];rfl,below_byR⟩
theorem mayStrip_v (a b c d lo hi:Int) (m:Bool) (h:St.may ⟨a,b,c,d,lo,hi⟩=m) (w:World) :
  Calls Tryz.prog 36 #[stC a b c d lo hi] w fun e w'=>e = .returned (.bool m)∧Below w.heap.size w w':=by
 subst h;exact mayStrip_c a b c d lo hi w
open Go.RowKit
def St.m (s:St):Int:=s.lo+s.hi+2*s.hx*s.ox+2*s.hy*s.oy
def ofStl (s:St):Iq:=⟨2*s.hx*(2*s.hx),2*s.hx*(2*s.hy),2*s.hy*(2*s.hy),s.m*(2*s.hx),s.m*(2*s.hy),s.m*s.m,(s.hi-s.lo)*(s.hi-s.lo)⟩
def ofSt (s:St):Iq × Int:=if s.may=true then (ofStl s,0) else (Iq.zero,1)
theorem mul_rng (a b m n:Int) (h1 : -m≤a) (h2:a≤m) (h3 : -n≤b) (h4:b≤n) : -(m*n)≤a*b∧a*b≤m*n:=by
 have e1:0≤(m-a)*(n-b):=Int.mul_nonneg (by omega) (by omega)
 have e2:0≤(m+a)*(n+b):=Int.mul_nonneg (by omega) (by omega)
 have e3:0≤(m-a)*(n+b):=Int.mul_nonneg (by omega) (by omega)
 have e4:0≤(m+a)*(n-b):=Int.mul_nonneg (by omega) (by omega)
 have f1:(m-a)*(n-b)=m*n-m*b-a*n+a*b:=by grind
 have f2:(m+a)*(n+b)=m*n+m*b+a*n+a*b:=by grind
 have f3:(m-a)*(n+b)=m*n+m*b-a*n-a*b:=by grind
 have f4:(m+a)*(n-b)=m*n-m*b+a*n-a*b:=by grind
 omega
theorem mulW {a b:Int} (ha:Sm 63 a) (hb:Sm 63 b):(WI.of a).mul (WI.of b)=WI.of (a*b):=WI.of_mul (ha.lim (by decide)) (hb.lim (by decide))
theorem ofStrip_main (a b c d lo hi:Int) (hs:St.may ⟨a,b,c,d,lo,hi⟩=true) (w:World) :
  Calls Tryz.prog 33 #[stC a b c d lo hi] w fun e w'=>e = .returned (.tuple #[iqV (ofStl ⟨a,b,c,d,lo,hi⟩),.int .i64 0])∧Below w.heap.size w w':=by
 have m:=(St.may_iff _).1 hs
 simp only at m
 obtain ⟨⟨m1,m2,m3,m4⟩,⟨m5,m6,m7,m8⟩,-,m9,m10,m11⟩:=m
 have HS:=Lib.hid hs
 obtain ⟨X,hX⟩:∃ X,2*c=X:=⟨_,rfl⟩
 obtain ⟨Y,hY⟩:∃ X,2*d=X:=⟨_,rfl⟩
 have x1 : -33554432≤X∧X≤33554432:=by omega
 have y1 : -33554432≤Y∧Y≤33554432:=by omega
 obtain ⟨p1,p2⟩:=mul_rng X a 33554432 4194304 x1.1 x1.2 m1 m2
 obtain ⟨p3,p4⟩:=mul_rng Y b 33554432 4194304 y1.1 y1.2 m3 m4
 obtain ⟨P,hP⟩:∃ P,X*a=P:=⟨_,rfl⟩
 obtain ⟨Q,hQ⟩:∃ P,Y*b=P:=⟨_,rfl⟩
 rw [hP] at p1 p2;rw [hQ] at p3 p4
 have p1' : -140737488355328≤P:=by omega
 have p2':P≤140737488355328:=by omega
 have p3' : -140737488355328≤Q:=by omega
 have p4':Q≤140737488355328:=by omega
 obtain ⟨S1,hS1⟩:∃ S,lo+hi=S:=⟨_,rfl⟩
 obtain ⟨S2,hS2⟩:∃ S,S1+P=S:=⟨_,rfl⟩
 obtain ⟨M,hM⟩:∃ S,S2+Q=S:=⟨_,rfl⟩
 obtain ⟨N,hN0⟩:∃ S,hi-lo=S:=⟨_,rfl⟩
 have s1 : -2251799813685248≤S1∧S1≤2251799813685248:=by omega
 have s2 : -3000000000000000≤S2∧S2≤3000000000000000:=by omega
 have s3 : -4000000000000000≤M∧M≤4000000000000000:=by omega
 have s4:0≤N∧N≤2251799813685248:=by omega
 have K:Hid (I64 X∧I64 Y∧I64 M∧I64 N):=by unfold Hid I64;omega
 have EF:Hid ((ofStl ⟨a,b,c,d,lo,hi⟩).ws = [(WI.of X).mul (WI.of X),(WI.of X).mul (WI.of Y),(WI.of Y).mul (WI.of Y),(WI.of M).mul (WI.of X),(WI.of M).mul (WI.of Y),(WI.of M).mul (WI.of M),(WI.of N).mul (WI.of N)]):=by
  have kX:=Sm.of64 K.out.1.1 K.out.1.2
  have kY:=Sm.of64 K.out.2.1.1 K.out.2.1.2
  have kM:=Sm.of64 K.out.2.2.1.1 K.out.2.2.1.2
  have kN:=Sm.of64 K.out.2.2.2.1 K.out.2.2.2.2
  show _=_
  rw [mulW kX kX,mulW kX kY,mulW kY kY,mulW kM kX,mulW kM kY,mulW kM kM,mulW kN kN]
  have em:St.m ⟨a,b,c,d,lo,hi⟩=M:=by unfold St.m;simp only;rw [hX,hY,hP,hQ,← hM,← hS2,← hS1]
  unfold ofStl Iq.ws
  rw [em];simp only [hX,hY,hN0]
 obtain ⟨s11,s12⟩:=s1
 obtain ⟨s21,s22⟩:=s2
 obtain ⟨s31,s32⟩:=s3
 obtain ⟨s41,s42⟩:=s4
 obtain ⟨x11,x12⟩:=x1
 obtain ⟨y11,y12⟩:=y1
 clear hs p1 p2 p3 p4
 go_enter Tryz.func33,Tryz.ntmps33
 go_wp2_with fail
 refine (mayStrip_v _ _ _ _ _ _ _ HS.out _).mono ?_;rintro e w1 ⟨rfl,hb1⟩;have z_w1:=hb1.size;(try simp at z_w1);obtain ⟨yw1aa,cw1aa,fw1aa,rw1aa,tw1aa,pw1aa⟩:=bq hb1 (w.heap.size);obtain ⟨yw1ab,cw1ab,fw1ab,rw1ab,tw1ab,pw1ab⟩:=bq hb1 (w.heap.size+1)
 go_wp2_with fail
 obtain ⟨w3,hw3⟩:∃ w3,w3=w1.alloc (Obj.cells #[.int .i64 X,.int .i64 Y] 23):=⟨_,rfl⟩
 rw [← hw3]
 have hb3:Below w1.heap.size w1 w3:=by rw [hw3];exact below_byR
 have z_w3:=hb3.size;(try simp at z_w3);obtain ⟨yw3aa,cw3aa,fw3aa,rw3aa,tw3aa,pw3aa⟩:=bq hb3 (w.heap.size);obtain ⟨yw3ab,cw3ab,fw3ab,rw3ab,tw3ab,pw3ab⟩:=bq hb3 (w.heap.size+1)
 have B4:Hid (Blk w3 w1.heap.size #[.int .i64 X,.int .i64 Y] 23):=by rw [hw3];exact Blk.new _ _ _
 clear hw3
 go_cut [5,6] from 7 (fun s5 s6 wc=>∃ g h,s5 = .pointer (some ⟨g,0,none⟩)∧s6 = .pointer (some ⟨h,0,none⟩)∧w3.heap.size≤g∧w3.heap.size≤h∧Hid (wc.row? g 0 18=some (WI.of X).cells)∧Hid (wc.row? h 0 18=some (WI.of Y).cells)∧Hid (Below w3.heap.size w3 wc))
 case first =>
  have t0:=@inw_cell _ _ _ (B4.out.cell (i:=0) rfl)
  have t1:=@inw_cell _ _ _ (B4.out.cell (i:=1) rfl)
  refine wp_region_fresh' 8 (fun k=>match k with|6=>some ⟨.cells (cellsI false false 0) 58,fun g => .pointer (some ⟨g,0,none⟩)⟩|7=>some ⟨.cells (cellsI false false 0) 58,fun g => .pointer (some ⟨g,0,none⟩)⟩|_=>none) (fun _=>[]) (by kernel_rfl) (by kernel_rfl) ?_;refine ex_list ?_;apply Exists.intro;refine ex_list ?_;apply Exists.intro;refine ex_list ?_;apply Exists.intro;refine ex_list ?_;apply Exists.intro;refine ex_list ?_;apply Exists.intro;refine ex_list ?_;apply Exists.intro;refine ex_list ⟨undef,?_⟩;refine ex_list ⟨undef,?_⟩;refine ⟨[],fun gg NN hN=>?_⟩;simp only [List.take_succ_cons,List.take_zero,List.drop_succ_cons,List.drop_zero];(repeat (first|(refine lexF_quiet rfl ?_;go_big_quiet_step (first|exact rfl|(exact calls_in (of_c _ (by first|exact K.out.1.1|exact K.out.2.1.1) (by first|exact K.out.1.2|exact K.out.2.1.2) _)));refine wpQuiet_nil ⟨rfl,?_⟩)|(refine lexF_fresh _ (by rfl) (by rfl) ?hex ?_;(case hex=>(intro wx;first|(go_simp;done)|(go_simp;rfl)));simp only [Act.put,List.setIfInBounds_toArray,List.set_cons_succ,List.set_cons_zero])))
  refine lexF_nil ?_
  intro w4 hb4' hh hd
  have hb4:Below w3.heap.size w3 w4:=hb4'
  obtain ⟨l8,e8⟩:=hh 6 _ (by decide) rfl
  obtain ⟨l9,e9⟩:=hh 7 _ (by decide) rfl
  have ne:gg 6≠gg 7:=hd 6 7 (by decide) (by decide) rfl rfl (by decide)
  clear hh hd hb4'
  have G8:Hid (Blk w4 (gg 6) (cellsI false false 0) 58):=e8
  have G9:Hid (Blk w4 (gg 7) (cellsI false false 0) 58):=e9
  have hp8:w4.put? (gg 6) 0 (WI.of X).cells=some (w4.putRow (gg 6) 0 (WI.of X).cells):=G8.out.put? 0 _ (by simp) (by simp)
  have hp9:(w4.putRow (gg 6) 0 (WI.of X).cells).put? (gg 7) 0 (WI.of Y).cells=some ((w4.putRow (gg 6) 0 (WI.of X).cells).putRow (gg 7) 0 (WI.of Y).cells):=(G9.out.putRow_other (Ne.symm ne) 0 _).put? 0 _ (by simp) (by simp)
  clear e8 e9
  go_wp2_with fail
  go_meet
  refine ⟨gg 6,gg 7,rfl,rfl,l8,l9,?_,?_,?_⟩
  ·show _=_;rw [((G8.out.putRow_same 0 (WI.of X).cells).putRow_other ne 0 _).row? 0 18 (by simp)];simp
  ·show _=_;rw [((G9.out.putRow_other (Ne.symm ne) 0 (WI.of X).cells).putRow_same 0 _).row? 0 18 (by simp)];simp
  ·exact Below_putRow (Below_putRow hb4 l8 _ _) l9 _ _
 case rest =>
  obtain ⟨g5,g6,rfl,rfl,l5,l6,r5,r6,HB4⟩:=hcut
  have hb4:=HB4.out
  have z_wc:=hb4.size;(try simp at z_wc);obtain ⟨y_wc_0_0,c_wc_0_0,f_wc_0_0,r_wc_0_0,t_wc_0_0,p_wc_0_0⟩:=bq hb4 (w.heap.size);obtain ⟨y_wc_0_1,c_wc_0_1,f_wc_0_1,r_wc_0_1,t_wc_0_1,p_wc_0_1⟩:=bq hb4 (w.heap.size+1)
  have B5:=Lib.hid (B4.out.keep hb4)
  have u0:=B5.out.cell (i:=0) rfl
  have u1:=B5.out.cell (i:=1) rfl
  have z4:=hb4.size
  have z3:=hb3.size
  have y4:w1.heap.size<wc.heap.size:=B5.out.lt
  go_wp2_with fail
  refine (of_c M K.out.2.2.1.1 K.out.2.2.1.2 _).mono ?_;rintro e w5 ⟨rfl,hb5⟩;have z_w5:=hb5.size;(try simp at z_w5);obtain ⟨yw5aa,cw5aa,fw5aa,rw5aa,tw5aa,pw5aa⟩:=bq hb5 (w.heap.size);obtain ⟨yw5ab,cw5ab,fw5ab,rw5ab,tw5ab,pw5ab⟩:=bq hb5 (w.heap.size+1)
  go_wp2_with fail
  refine (of_c N K.out.2.2.2.1 K.out.2.2.2.2 _).mono ?_;rintro e w6 ⟨rfl,hb6⟩;have z_w6:=hb6.size;(try simp at z_w6);obtain ⟨yw6aa,cw6aa,fw6aa,rw6aa,tw6aa,pw6aa⟩:=bq hb6 (w.heap.size);obtain ⟨yw6ab,cw6ab,fw6ab,rw6ab,tw6ab,pw6ab⟩:=bq hb6 (w.heap.size+1)
  go_wp2_with fail
  obtain ⟨w7,hw7⟩:∃ w7,w7=w6.alloc (Obj.cells (WI.of N).cells 58):=⟨_,rfl⟩
  rw [← hw7]
  have hbM:=Lib.hid ((((Blk.new w5 (WI.of M).cells 58).keep hb6).alloc (Obj.cells (WI.of N).cells 58)).row?_all 18 (by simp))
  have hbN:=Lib.hid ((Blk.new w6 (WI.of N).cells 58).row?_all 18 (by simp))
  rw [← hw7] at hbM hbN
  have hb7:Below wc.heap.size wc w7:=by rw [hw7];exact below_byR
  clear hw7
  have z_w7:=hb7.size;(try simp at z_w7);obtain ⟨yw7aa,cw7aa,fw7aa,rw7aa,tw7aa,pw7aa⟩:=bq hb7 (w.heap.size);obtain ⟨yw7ab,cw7ab,fw7ab,rw7ab,tw7ab,pw7ab⟩:=bq hb7 (w.heap.size+1)
  have F7:w7.fits (w.heap.size+1) 126=true:=by go_simp
  have q0:=@inw_row _ _ _ _ _ ((Below.row? hb7 g5 0 18 (row_lt r5.out)).trans r5.out)
  have q1:=@inw_row _ _ _ _ _ ((Below.row? hb7 g6 0 18 (row_lt r6.out)).trans r6.out)
  have q2:=@inw_row _ _ _ _ _ hbM.out
  have q3:=@inw_row _ _ _ _ _ hbN.out
  refine wp_region_fresh' 22 (fun _=>none) (fun _=>[]) (by kernel_rfl) (by kernel_rfl) ?_;refine ex_list ?_;apply Exists.intro;refine ex_list ?_;apply Exists.intro;refine ex_list ?_;apply Exists.intro;refine ex_list ?_;apply Exists.intro;refine ex_list ?_;apply Exists.intro;refine ex_list ?_;apply Exists.intro;refine ex_list ?_;apply Exists.intro;refine ex_list ?_;apply Exists.intro;refine ex_list ?_;apply Exists.intro;refine ex_list ?_;apply Exists.intro;refine ex_list ?_;apply Exists.intro;refine ex_list ?_;apply Exists.intro;refine ex_list ?_;apply Exists.intro;refine ex_list ?_;apply Exists.intro;refine ex_list ?_;apply Exists.intro;refine ex_list ?_;apply Exists.intro;refine ex_list ?_;apply Exists.intro;refine ex_list ?_;apply Exists.intro;refine ex_list ?_;apply Exists.intro;refine ex_list ?_;apply Exists.intro;refine ex_list ?_;apply Exists.intro;refine ex_list ?_;apply Exists.intro;refine ⟨[],fun gg NN hN=>?_⟩;simp only [List.take_succ_cons,List.take_zero,List.drop_succ_cons,List.drop_zero];(repeat (refine lexF_quiet rfl ?_;go_big_quiet_step (first|exact rfl|(exact calls_in (mul_I _ _ _)));refine wpQuiet_nil ⟨rfl,?_⟩))
  refine lexF_nil ?_
  intro w8 hb8' _ _
  have hb8:Below w7.heap.size w7 w8:=hb8'
  clear hb8' q0 q1 q2 q3
  have z_w8:=hb8.size;(try simp at z_w8);obtain ⟨yw8aa,cw8aa,fw8aa,rw8aa,tw8aa,pw8aa⟩:=bq hb8 (w.heap.size);obtain ⟨yw8ab,cw8ab,fw8ab,rw8ab,tw8ab,pw8ab⟩:=bq hb8 (w.heap.size+1)
  have F8:w8.fits (w.heap.size+1) 126=true:=by go_simp
  have hpR:=put?_fits (o:=0) (cs:=blk [(WI.of X).mul (WI.of X),(WI.of X).mul (WI.of Y),(WI.of Y).mul (WI.of Y),(WI.of M).mul (WI.of X),(WI.of M).mul (WI.of Y),(WI.of M).mul (WI.of M),(WI.of N).mul (WI.of N)]) (by simpa using F8) (by simp)
  have rR:=row_put hpR (n:=126) (by simp)
  go_wp2_with fail
  exact bodyPost_row_t 126 _ (.int .i64 0) rfl rfl rfl rfl Tryz.underlying60 rfl info_Info rR ⟨by rw [iqV,EF.out],below_byR⟩
theorem ofStrip_c (s:St) (w:World) :
  Calls Tryz.prog 33 #[stV s] w fun r w'=>r = .returned (.tuple #[iqV (ofSt s).1,.int .i64 (ofSt s).2])∧Below w.heap.size w w':=by
 obtain ⟨a,b,c,d,lo,hi⟩:=s
 cases he:St.may ⟨a,b,c,d,lo,hi⟩ with
 | true =>
  have:ofSt ⟨a,b,c,d,lo,hi⟩=(ofStl ⟨a,b,c,d,lo,hi⟩,0):=by unfold ofSt;rw [if_pos he]
  rw [this];exact ofStrip_main a b c d lo hi he w
 | false =>
  have HE:=Lib.hid he
  have E:Hid (ofSt ⟨a,b,c,d,lo,hi⟩=(Iq.zero,1)):=by show _=_;unfold ofSt;rw [if_neg (by rw [he];decide)]
  clear he
  show Calls Tryz.prog 33 #[stC a b c d lo hi] w _
  go_enter Tryz.func33,Tryz.ntmps33
  go_wp2_with fail
  refine (mayStrip_v _ _ _ _ _ _ _ HE.out _).mono ?_;rintro e w1 ⟨rfl,hb1⟩;have z_w1:=hb1.size;(try simp at z_w1);obtain ⟨yw1aa,cw1aa,fw1aa,rw1aa,tw1aa,pw1aa⟩:=bq hb1 (w.heap.size);obtain ⟨yw1ab,cw1ab,fw1ab,rw1ab,tw1ab,pw1ab⟩:=bq hb1 (w.heap.size+1)
  have F1:w1.fits (w.heap.size+1) 126=true:=by go_simp
  have hpR:=put?_fits (o:=0) (cs:=blk [WI.of 0,WI.of 0,WI.of 0,WI.of 0,WI.of 0,WI.of 0,WI.of 0]) (by simpa using F1) (by simp)
  have rR:=row_put hpR (n:=126) (by simp)
  go_wp2_with fail
  exact bodyPost_row_t 126 _ (.int .i64 1) rfl rfl rfl rfl Tryz.underlying60 rfl info_Info rR ⟨by rw [E.out];rfl,below_byR⟩
end Go.Proofs.YtilginoibhfeiaaGreat
