/- Walks. -/
import Derived.WalkKit
import Derived.Lib.Hide
import Derived.Deep.MidRow
import Derived.Deep.QuietTactic
import Derived.StillTailTactics
import Derived.Test.YtechbdnhalmobaaGreatDoorBN
import Derived.BigQuiet
import Derived.Lib.QuietBelow
namespace Go.Proofs.YtechbdnhalmobaaGreatDoor
set_option linter.unusedSimpArgs false
set_option linter.unusedVariables false
open Go.RowKit
def Blk(w:World)(b:Nat)(c:Array Value)(t:TypeId):Prop:=w.heap[b]?=some (.cells c t (0,0))
theorem Blk.cell{w:World}{b:Nat}{c:Array Value}{t:TypeId}(h:Blk w b c t){i:Nat}{v:Value}(a:c[i]?=some v):w.cell? ⟨b,i,none⟩=some v:=by
 rw[cell_of_row w b i c t (0,0) h,a]
theorem Blk.at{w:World}{b:Nat}{c:Array Value}{t:TypeId}(h:Blk w b c t)(i:Nat):w.cell? ⟨b,i,none⟩=c[i]?:=cell_of_row w b i c t (0,0) h
theorem Blk.frozen{w:World}{b:Nat}{c:Array Value}{t:TypeId}(h:Blk w b c t)(i:Nat):w.frozen? ⟨b,i,none⟩=false:=frozen_of_row w b i c t h
theorem Blk.lt{w:World}{b:Nat}{c:Array Value}{t:TypeId}(h:Blk w b c t):b<w.heap.size:=by
 rcases Nat.lt_or_ge b w.heap.size with a|a
 ·exact a
 ·unfold Blk at h;rw[Array.getElem?_eq_none a] at h;cases h
theorem Blk.new(w:World)(c:Array Value)(t:TypeId):Blk (w.alloc (.cells c t)) w.heap.size c t:=heap_alloc_new w _
theorem Blk.new'(w:World)(c:Array Value)(t:TypeId){b:Nat}(hb:b=w.heap.size):Blk (w.alloc (.cells c t)) b c t:=by subst hb;exact heap_alloc_new w _
theorem Blk.alloc{w:World}{b:Nat}{c:Array Value}{t:TypeId}(h:Blk w b c t)(o:Obj):Blk (w.alloc o) b c t:=by
 unfold Blk;rw[Below.heap_alloc w o b h.lt];exact h
theorem Blk.drew{w:World}{b:Nat}{c:Array Value}{t:TypeId}(h:Blk w b c t):Blk w.drew b c t:=h
theorem Blk.below{w w':World}{B b:Nat}{c:Array Value}{t:TypeId}(h:Blk w b c t)(hb:Below B w w')(a:b<B):Blk w' b c t:=by
 unfold Blk;rw[hb.block b a];exact h
abbrev zB(w w1:World):Prop:=Below w.heap.size w w1
instance:Coe Int Value:=⟨fun x=>.int .i64 x⟩
instance:Coe Nat Value:=⟨fun x=>.int .i64 x⟩
instance:Coe Bool Value:=⟨.bool⟩
theorem Blk.keep{w w':World}{b:Nat}{c:Array Value}{t:TypeId}(h:Blk w b c t)(hb:zB w w'):Blk w' b c t:=h.below hb h.lt
theorem Blk.ab{w:World}{b:Nat}{c:Array Value}{t:TypeId}(h:Blk w b c t)(i:Nat)(v:Value):Blk (w.setCell ⟨b,i,none⟩ v) b (c.setIfInBounds i v) t:=
 heap_setCell_same w b i c t v h
theorem Blk.ac{w:World}{b:Nat}{c:Array Value}{t:TypeId}(h:Blk w b c t){a:Addr}(hne:b≠a.block)(v:Value):Blk (w.setCell a v) b c t:=by
 unfold Blk;rw[heap_setCell_other w a b v hne];exact h
theorem Blk.ee{w:World}{b:Nat}{c:Array Value}{t:TypeId}(h:Blk w b c t)(a:Array Value):Blk (w.setRow b a) b a t:=_root_.Go.setRow_heap w b c a t _ h
theorem Blk.setRow_other{w:World}{b:Nat}{c:Array Value}{t:TypeId}(h:Blk w b c t){g:Nat}(a:b≠g)(d:Array Value):Blk (w.setRow g d) b c t:=by
 unfold Blk;rw[_root_.Go.setRow_other w g b d a];exact h
theorem Blk.of_eq{w:World}{b:Nat}{c c':Array Value}{t:TypeId}(h:Blk w b c t)(e:c=c'):Blk w b c' t:=e ▸ h
theorem cJ{B:Nat}{a w:World}(h:Below B a w){g:Nat}(d:B<=g)(c:Array Value):Below B a (w.setRow g c):=
 h.trans ⟨rfl,rfl,rfl,by simp,fun k b=>_root_.Go.setRow_other w g k c (by omega)⟩
theorem cM{P:Program}{c:Func}{p u:Tmp}{ty:TypeId}(h:c.results=#[.cell p ty,.tmp u])(a:Array Value)(w:World)(g:Nat)(t:TypeId)(b:Array Value)(d:TypeDesc)(e:a.getD p undef=.pointer (some ⟨g,0,none⟩))(k:Blk w g b t)(i:P.underlying ty=some d)(j:(match d with | .struct _ | .array _ _=>true|_=>false)=true)(f:(P.info? ty).map (·.size)=some b.size):(results c a).run P w=.ok (.tuple #[.agg b,a.getD u undef]) w:=by
 rw[results_cell_tmp h,e];simp[asAddr,Result.andThen,run_loadVar_row w g t ty b (0,0) d k i j f]
theorem ke{P:Program}{c:Func}{p:Tmp}{ty:TypeId}(h:c.results=#[.cell p ty])(a:Array Value)(w:World)(g:Nat)(t:TypeId)(b:Array Value)(d:TypeDesc)(e:a.getD p undef=.pointer (some ⟨g,0,none⟩))(k:Blk w g b t)(i:P.underlying ty=some d)(j:(match d with | .struct _ | .array _ _=>true|_=>false)=true)(f:(P.info? ty).map (·.size)=some b.size):(results c a).run P w=.ok (.agg b) w:=
 results_cell_row h a w g t b (0,0) d e k i j f
def splice(c:Array Value)(o:Nat)(cs:Array Value):Array Value:=(c.toList.take o++cs.toList++c.toList.drop (o+cs.size)).toArray
def ones(cs:Array Value):Bool:=cs.all (·.oneCell')
end Go.Proofs.YtechbdnhalmobaaGreatDoor
namespace Go
def World.row?(w:World)(b o n:Nat):Option (Array Value):=
 match w.heap[b]? with
 | some (.cells c _ _)=>if o+n<=c.size then some (c.extract o (o+n)) else none
 | _=>none
def World.putRow(w:World)(b o:Nat)(cs:Array Value):World:=
 { w with heap := w.heap.modify b fun
     | .cells c t fr=>.cells (Proofs.YtechbdnhalmobaaGreatDoor.splice c o cs) t fr
     | ob=>ob}
def World.put?(w:World)(b o:Nat)(cs:Array Value):Option World:=
 match w.heap[b]? with
 | some (.cells c _ (0,0))=>if o+cs.size<=c.size&&Proofs.YtechbdnhalmobaaGreatDoor.ones cs then some (w.putRow b o cs) else none
 | _=>none
def World.fits(w:World)(b n:Nat):Bool:=
 match w.heap[b]? with
 | some (.cells c _ (0,0))=>decide (n<=c.size)
 | _=>false
end Go
namespace Go.Proofs.YtechbdnhalmobaaGreatDoor
open Go.RowKit
@[simp] theorem dw(c cs : Array Value)(h : cs.size=c.size):splice c 0 cs=cs:=by
  unfold splice;have:c.toList.drop (0+cs.size)=[]:=List.drop_eq_nil_of_le (by simp[h]);rw[this];simp
@[simp] theorem jZ(c : Array Value)(o : Nat)(a : Array Value)(h : o + a.size <= c.size):(splice c o a).size=c.size:=by
  simp[splice];omega
def Do(r:Option (Array Value))(w:World)(f:Result Value):Result Value:=
 match r with
 | some cs=>.ok (.agg cs) w
 | none=>f
@[go_sem] theorem CK(a : Array Value)(w : World)(f : Result Value):Do (some a) w f=.ok (.agg a) w:=rfl
def sj(r:Option World)(f:Result Unit):Result Unit:=
 match r with
 | some w=>.ok () w
 | none=>f
@[go_sem] theorem CM(w : World)(f : Result Unit):sj (some w) f=.ok () w:=rfl
section
variable {P:Program}
theorem eZ(w:World)(b o:Nat)(c d:Array Value)(t:TypeId)(e:Nat×Nat)(h:w.heap[b]?=some (.cells c t e)):w.setRow b (splice c o d)=w.putRow b o d:=by
 unfold World.setRow World.putRow;congr 1
 apply Array.ext_getElem?;intro i;rw[Array.getElem?_modify,Array.getElem?_modify];by_cases a:b=i
 ·subst a;simp[h]
 ·simp[a]
theorem run_loadVar_row?(w:World)(b o n:Nat)(a:TypeId)(e:Array Value)(d:TypeDesc)(i:P.underlying a=some d)(l:d.isRow=true)(f:(P.info? a).map (·.size)=some n)(h:w.row? b o n=some e):(loadVar a ⟨b,o,none⟩).run P w=.ok (.agg e) w:=by
 unfold World.row? at h;split at h
 ·rename_i c t p k;split at h
  ·rename_i j;cases h;have g:=World.rangeAt_of_block k o n;have m:((c.extract o (o+n)).toList).length=n:=by simp;omega
   have:=run_loadVar_mid (P:=P) w b o a (c.extract o (o+n)).toList d g i l (by rw[m];exact f);rwa [Array.toArray_toList] at this
  ·cases h
 ·cases h
end
def lcf(P:Program)(b o n:Nat)(w:World):Result (Array Value):=(loadCellsFrom ⟨b,o,none⟩ 0 n #[]).run P w
def scf(P:Program)(b o:Nat)(cs:Array Value)(w:World):Result Unit:=(storeCells ⟨b,o,none⟩ cs.toList).run P w
def gT(r:Option (Array Value))(w:World)(f:Result (Array Value)):Result (Array Value):=
 match r with
 | some cs=>.ok cs w
 | none=>f
@[go_sem] theorem AG(a : Array Value)(w : World)(f : Result (Array Value)):gT (some a) w f=.ok a w:=rfl
theorem lcf_row?{P:Program}(w:World)(b o n:Nat):(loadCellsFrom ⟨b,o,none⟩ 0 n #[]).run P w=gT (w.row? b o n) w (lcf P b o n w):=by
 cases h:w.row? b o n with
 | none=>rfl
 | some i=>
  unfold World.row? at h;split at h
  ·rename_i c t g e;split at h
   ·cases h;have d:=World.rangeAt_of_block e o n;have f:((c.extract o (o+n)).toList).length=n:=by simp;omega
    have:=run_loadCells_list (P:=P) w ⟨b,o,none⟩ (c.extract o (o+n)).toList (fun j v a=>by rw[Addr.add_mid];exact d j v a);rw[f,Array.toArray_toList] at this;exact this
   ·cases h
  ·cases h
theorem scf_put?{P:Program}(w:World)(b o:Nat)(a:Array Value):(storeCells ⟨b,o,none⟩ a.toList).run P w=sj (w.put? b o a) (scf P b o a w):=by
 cases h:w.put? b o a with
 | none=>rfl
 | some i=>
  unfold World.put? at h;split at h
  ·rename_i c t f;split at h
   ·rename_i e;rw[Bool.and_eq_true,decide_eq_true_eq] at e;have d:=run_storeCells_at P b o t a.toList 0 c w f (by simpa using e.1) (fun v g=>(Array.all_eq_true_iff_forall_mem.1 e.2) v (by simpa using g));have:=eZ w b o c a t (0,0) f;unfold splice at this;simp only[Nat.add_zero,Array.length_toList,this] at d;cases h;exact d
   ·cases h
  ·cases h
@[go_sem ↓] theorem Gu(P : Program)(w : World)(b o : Nat):(loadCellsFrom ⟨b, o, none⟩ 0 16 #[]).run P w=gT (w.row? b o 16) w (lcf P b o 16 w):=lcf_row? w b o 16
@[go_sem ↓] theorem Gt(P : Program)(w : World)(b o : Nat):(loadCellsFrom ⟨b, o, none⟩ 0 18 #[]).run P w=gT (w.row? b o 18) w (lcf P b o 18 w):=lcf_row? w b o 18
@[go_sem] theorem Gi(P : Program)(w : World)(b o : Nat)(a : Array Value):(storeCells ⟨b, o, none⟩ a.toList).run P w=sj (w.put? b o a) (scf P b o a w):=scf_put? w b o a
@[go_sem] theorem GR(n : Nat):(n=n + 1)=False:=eq_false (by omega)
@[go_sem] theorem GJ(n : Nat):(n + 1=n)=False:=eq_false (by omega)
@[go_sem] theorem G3(n : Nat):(n < n + 1)=True:=eq_true (by omega)
@[go_sem] theorem GQ(n : Nat):(n=n + 1 + 1)=False:=eq_false (by omega)
@[go_sem] theorem GI(n : Nat):(n + 1 + 1=n)=False:=eq_false (by omega)
@[go_sem] theorem G0(n : Nat):(n < n + 1 + 1)=True:=eq_true (by omega)
@[go_sem] theorem GP(n : Nat):(n=n + 1 + 1 + 1)=False:=eq_false (by omega)
@[go_sem] theorem GH(n : Nat):(n + 1 + 1 + 1=n)=False:=eq_false (by omega)
@[go_sem] theorem GY(n : Nat):(n < n + 1 + 1 + 1)=True:=eq_true (by omega)
@[go_sem] theorem GO(n : Nat):(n=n + 1 + 1 + 1 + 1)=False:=eq_false (by omega)
@[go_sem] theorem GG(n : Nat):(n + 1 + 1 + 1 + 1=n)=False:=eq_false (by omega)
@[go_sem] theorem GX(n : Nat):(n < n + 1 + 1 + 1 + 1)=True:=eq_true (by omega)
@[go_sem] theorem GN(n : Nat):(n=n + 1 + 1 + 1 + 1 + 1)=False:=eq_false (by omega)
@[go_sem] theorem GF(n : Nat):(n + 1 + 1 + 1 + 1 + 1=n)=False:=eq_false (by omega)
@[go_sem] theorem GW(n : Nat):(n < n + 1 + 1 + 1 + 1 + 1)=True:=eq_true (by omega)
@[go_sem] theorem GM(n : Nat):(n=n + 1 + 1 + 1 + 1 + 1 + 1)=False:=eq_false (by omega)
@[go_sem] theorem GE(n : Nat):(n + 1 + 1 + 1 + 1 + 1 + 1=n)=False:=eq_false (by omega)
@[go_sem] theorem GV(n : Nat):(n < n + 1 + 1 + 1 + 1 + 1 + 1)=True:=eq_true (by omega)
@[go_sem] theorem GL(n : Nat):(n=n + 1 + 1 + 1 + 1 + 1 + 1 + 1)=False:=eq_false (by omega)
@[go_sem] theorem GD(n : Nat):(n + 1 + 1 + 1 + 1 + 1 + 1 + 1=n)=False:=eq_false (by omega)
@[go_sem] theorem GU(n : Nat):(n < n + 1 + 1 + 1 + 1 + 1 + 1 + 1)=True:=eq_true (by omega)
@[go_sem] theorem GK(n : Nat):(n=n + 1 + 1 + 1 + 1 + 1 + 1 + 1 + 1)=False:=eq_false (by omega)
@[go_sem] theorem Gz(n : Nat):(n + 1 + 1 + 1 + 1 + 1 + 1 + 1 + 1=n)=False:=eq_false (by omega)
@[go_sem] theorem GT(n : Nat):(n < n + 1 + 1 + 1 + 1 + 1 + 1 + 1 + 1)=True:=eq_true (by omega)
section
variable {w:World}
@[go_sem] theorem row?_alloc_at(c : Array Value)(t : TypeId)(b o n : Nat)(d : b=w.heap.size)(a : o + n <= c.size):(w.alloc (.cells c t)).row? b o n=some (c.extract o (o + n)):=by
  subst d;unfold World.row?;rw[heap_alloc_new];simp[a]
@[go_sem] theorem row?_alloc_past(a : Obj)(b o n : Nat)(c : b < w.heap.size):(w.alloc a).row? b o n=w.row? b o n:=by
  unfold World.row?;rw[Below.heap_alloc w a b c]
@[go_sem] theorem row?_drew(b o n : Nat):w.drew.row? b o n=w.row? b o n:=rfl
@[go_sem] theorem row?_drewN(k b o n : Nat):(w.drewN k).row? b o n=w.row? b o n:=rfl
@[go_sem] theorem put?_drew(b o : Nat)(e : Array Value):w.drew.put? b o e=(w.put? b o e).map World.drew:=by
  unfold World.put? World.drew World.putRow;simp only;cases h:w.heap[b]? with
  | none=>rfl
  | some g=>
   cases g with
   | cells c t f=>
    obtain⟨d,a⟩:=f;rcases d with _|d<;>rcases a with _|a<;>simp only[Option.map_none]
    split<;>rfl
   | _=>rfl
@[go_sem] theorem put?_alloc_at(c : Array Value)(t : TypeId)(b o : Nat)(a : Array Value)(g : b=w.heap.size)(d : o + a.size <= c.size)(j : ones a=true):(w.alloc (.cells c t)).put? b o a=some (w.alloc (.cells (splice c o a) t)):=by
 subst g;unfold World.put?;rw[heap_alloc_new];simp only[d,j,decide_true,Bool.and_self,if_true];rw[<-eZ _ _ o c a t (0,0) (heap_alloc_new w _)];congr 1
 simp only[World.setRow,World.alloc];congr 1
 apply Array.ext_getElem?;intro i;rw[Array.getElem?_modify];by_cases h:w.heap.size=i
 ·subst h;simp
 ·have f:¬i=w.heap.size:=fun e=>h e.symm;simp[h,f,Array.getElem?_push]
theorem iX(c:Obj)(b o:Nat)(d:Array Value)(e:b<w.heap.size):(w.alloc c).putRow b o d=(w.putRow b o d).alloc c:=by
 simp only[World.putRow,World.alloc];congr 1
 apply Array.ext_getElem?;intro k;simp only[Array.getElem?_modify,Array.getElem?_push,Array.size_modify];by_cases a:k=w.heap.size
 ·subst a;simp[Nat.ne_of_lt e]
 ·simp[a]
@[go_sem] theorem put?_alloc_past(a : Obj)(b o : Nat)(e : Array Value)(g : b < w.heap.size):(w.alloc a).put? b o e=(w.put? b o e).map (·.alloc a):=by
  unfold World.put?;rw[Below.heap_alloc w a b g];rw[iX a b o e g];cases h:w.heap[b]? with
  | none=>rfl
  | some d=>
   cases d with
   | cells c t j=>
    obtain⟨f,i⟩:=j;rcases f with _|f<;>rcases i with _|i<;>simp only[Option.map_none]
    split<;>rfl
   | _=>rfl
end
theorem Blk.row?{w:World}{b:Nat}{c:Array Value}{t:TypeId}(h:Blk w b c t)(o n:Nat)(a:o+n<=c.size):w.row? b o n=some (c.extract o (o+n)):=by
 unfold World.row?;unfold Blk at h;rw[h];simp[a]
theorem Blk.row?_all{w:World}{b:Nat}{c:Array Value}{t:TypeId}(h:Blk w b c t)(n:Nat)(a:c.size=n):w.row? b 0 n=some c:=by
 rw[h.row? 0 n (by omega)];simp[<-a]
theorem Blk.put?{w:World}{b:Nat}{c:Array Value}{t:TypeId}(h:Blk w b c t)(o:Nat)(cs:Array Value)(a:o+cs.size<=c.size)(d:ones cs=true):w.put? b o cs=some (w.putRow b o cs):=by
 unfold World.put?;unfold Blk at h;rw[h];simp[a,d]
theorem Blk.aK{w:World}{b:Nat}{c:Array Value}{t:TypeId}(h:Blk w b c t)(o:Nat)(cs:Array Value):Blk (w.putRow b o cs) b (splice c o cs) t:=by
 rw[<-eZ w b o c cs t (0,0) h];exact h.ee _
theorem Blk.aC{w:World}{b:Nat}{c:Array Value}{t:TypeId}(h:Blk w b c t){g:Nat}(a:b≠g)(o:Nat)(cs:Array Value):Blk (w.putRow g o cs) b c t:=by
 unfold Blk World.putRow;unfold Blk at h;simp only[Array.getElem?_modify];rw[if_neg (Ne.symm a)];exact h
theorem ar{B:Nat}{a w:World}(h:Below B a w){g:Nat}(c:B<=g)(o:Nat)(cs:Array Value):Below B a (w.putRow g o cs):=
 h.trans ⟨rfl,rfl,rfl,by simp[World.putRow],fun k b=>by
  simp only[World.putRow,Array.getElem?_modify];rw[if_neg (by omega)]⟩
theorem Below.row?{B:Nat}{w w':World}(h:Below B w w')(b o n:Nat)(a:b<B):w'.row? b o n=w.row? b o n:=by
 unfold World.row?;rw[h.block b a]
theorem Below.put?{B:Nat}{w w':World}(h:Below B w w')(b o:Nat)(cs:Array Value)(a:b<B)(hp:(w.put? b o cs).isSome=true):w'.put? b o cs=some (w'.putRow b o cs):=by
 unfold World.put? at *;rw[h.block b a];revert hp
 split
 ·split
  ·intro _;rfl
  ·intro h;cases h
 ·intro h;cases h
theorem results_row?{P:Program}{f:Func}{p:Tmp}{b:TypeId}(h:f.results=#[.cell p b])(a:Array Value)(w:World)(g n:Nat)(e:Array Value)(d:TypeDesc)(i:a.getD p undef=.pointer (some ⟨g,0,none⟩))(m:w.row? g 0 n=some e)(k:P.underlying b=some d)(l:d.isRow=true)(j:(P.info? b).map (·.size)=some n):(results f a).run P w=.ok (.agg e) w:=by
 have:=run_loadVar_row? (P:=P) w g 0 n b e d k l j m;have c:a[p]?.getD undef=.pointer (some ⟨g,0,none⟩):=by simpa using i
 simp[results,h,c,asAddr,this]
theorem dv{P:Program}{b:Nat}{Q:Exit->Act->World->Prop}{a:Act}{w:World}{l:List Oper}(n:Nat)(c:P.follows .mixedOrders=true)(hB:Region.lexTailB .any l.toArray n=true)(h:wpStill P l.toArray w.drew (fun d=>wpList P l.toArray Q (l.drop n) d w.drew) (l.take n) a):(Code.region b l.toArray true).wp P Q a w:=
 wp_region_still_tail n c hB h
theorem vZ(l:List Value):∀(k o:Nat) (c:Array Value) (i:Nat),((l.zipIdx k).foldl (fun e x=>e.setIfInBounds (o+x.2) x.1) c)[i]? = if o+k<=i/\i<o+k+l.length/\i<c.size then l[i-(o+k)]? else c[i]?:=by
 induction l with
 | nil=>intro k o c i;rw[if_neg (by simp;omega)];rfl
 | cons v l d=>
  intro k o c i;rw[List.zipIdx_cons,List.foldl_cons,d (k+1) o];simp only[Array.size_setIfInBounds,List.length_cons,Array.getElem?_setIfInBounds];by_cases b:o+k=i
  ·subst b;rw[if_neg (by omega)];by_cases a:o+k<c.size
   ·simp[a]
   ·simp[a]
  ·by_cases a:o+(k+1)<=i/\i<o+(k+1)+l.length/\i<c.size
   ·rw[if_pos a,if_pos (by omega)];rw[show i-(o+k)=(i-(o+(k+1)))+1 by omega,List.getElem?_cons_succ]
   ·rw[if_neg a,if_neg b,if_neg (by omega)]
theorem gx(l:List Value):∀(k o:Nat) (c:Array Value),((l.zipIdx k).foldl (fun b x=>b.setIfInBounds (o+x.2) x.1) c).size=c.size:=by
 induction l with
 | nil=>intro k o c;rfl
 | cons v l a=>intro k o c;rw[List.zipIdx_cons,List.foldl_cons,a];simp
theorem je(c v:Array Value)(o:Nat)(h:o+v.size<=c.size):v.zipIdx.foldl (fun f x=>f.setIfInBounds (o+x.2) x.1) c=splice c o v:=by
 rw[<-Array.foldl_toList,Array.toList_zipIdx];apply Array.ext
 ·rw[gx,jZ _ _ _ h]
 ·intro i d g;have e:=vZ v.toList 0 o c i;rw[Array.getElem?_eq_getElem d] at e;rw[gx] at d;have k:(splice c o v)[i]?=some ((splice c o v)[i]):=Array.getElem?_eq_getElem g
  have:(splice c o v)[i]? = if o+0<=i/\i<o+0+v.toList.length/\i<c.size then v.toList[i-(o+0)]? else c[i]?:=by
   unfold splice;simp only[List.getElem?_toArray,List.getElem?_append,List.length_append,List.length_take,Array.length_toList,Nat.add_zero];have j:min o c.size=o:=by omega
   rw[j];by_cases a:i<o
   ·rw[if_pos (by omega),if_pos a,if_neg (by omega),List.getElem?_take_of_lt a,Array.getElem?_toList]
   ·by_cases b:i<o+v.size
    ·rw[if_pos b,if_neg a,if_pos (by omega)]
    ·rw[if_neg b,if_neg (by omega),List.getElem?_drop,Array.getElem?_toList];congr 1;omega
  rw[<-this,k] at e;exact Option.some.inj e
theorem ak{P:Program}{f:Func}{R:Ending->World->Prop}{a:Act}{w:World}{p:Tmp}{b:TypeId}{g:Nat}(n:Nat)(e:Array Value){d:TypeDesc}(h:f.results=#[.cell p b])(c:a.defers=[])(l:a.tmps.getD p undef=.pointer (some ⟨g,0,none⟩))(o:P.underlying b=some d)(k:d.isRow=true)(j:(P.info? b).map (·.size)=some n)(i:w.row? g 0 n=some e)(m:R (.returned (.agg e)) w):bodyPost P f R .ret a w:=bodyPost_ret (results_row? h a.tmps w g n e d l i o k j) c m
@[simp] theorem qh(w : World)(b o : Nat)(a : Array Value):(w.putRow b o a).heap.size=w.heap.size:=by simp [World.putRow]
theorem jv{B:Nat}{a b:World}(h:Hid (Below B a b)):Below B a b:=h
theorem put?_fits{w:World}{b o:Nat}{cs:Array Value}(h:w.fits b (o+cs.size)=true)(a:ones cs=true):w.put? b o cs=some (w.putRow b o cs):=by
 unfold World.fits at h;unfold World.put?;split at h
 ·rename_i c t d;rw[h,a];rfl
 ·cases h
section
variable {w:World}
@[go_sem] theorem zQ(c : Array Value)(t : TypeId)(b n : Nat)(a : b=w.heap.size):(w.alloc (.cells c t)).fits b n=decide (n <= c.size):=by
  subst a;unfold World.fits;rw[heap_alloc_new];rfl
@[go_sem] theorem wR(a : Obj)(b n : Nat)(c : b < w.heap.size):(w.alloc a).fits b n=w.fits b n:=by
  unfold World.fits;rw[Below.heap_alloc w a b c]
@[go_sem] theorem Ex(b n : Nat):w.drew.fits b n=w.fits b n:=rfl
@[go_sem] theorem D4(k b n : Nat):(w.drewN k).fits b n=w.fits b n:=rfl
theorem bS(g o:Nat)(a:Array Value)(b:Nat)(h:b≠g):(w.putRow g o a).heap[b]? = w.heap[b]?:=by
 simp only[World.putRow,Array.getElem?_modify];rw[if_neg (Ne.symm h)]
@[go_sem] theorem gz(g o : Nat)(cs : Array Value)(b n : Nat)(h : b≠g):(w.putRow g o cs).fits b n=w.fits b n:=by
  unfold World.fits;rw[bS g o cs b h]
@[go_sem] theorem row?_putRow_other(g o : Nat)(a : Array Value)(b c n : Nat)(h : b≠g):(w.putRow g o a).row? b c n=w.row? b c n:=by
  unfold World.row?;rw[bS g o a b h]
@[go_sem] theorem cell?_putRow_other(g o : Nat)(a : Array Value)(b c : Nat)(h : b≠g):(w.putRow g o a).cell? ⟨b, c, none⟩=w.cell? ⟨b, c, none⟩:=by
  unfold World.cell?;simp only;rw[bS g o a b h]
@[go_sem] theorem frozen?_putRow_other(g o : Nat)(a : Array Value)(b c : Nat)(h : b≠g):(w.putRow g o a).frozen? ⟨b, c, none⟩=w.frozen? ⟨b, c, none⟩:=by
  unfold World.frozen?;simp only;rw[bS g o a b h]
@[go_sem] theorem CL(g o : Nat)(a : Array Value):w.drew.putRow g o a=(w.putRow g o a).drew:=rfl
end
theorem Below.fits{B:Nat}{w a:World}(h:Below B w a)(b n:Nat)(c:b<B):a.fits b n=w.fits b n:=by
 unfold World.fits;rw[h.block b c]
theorem bk{W a:World}(hb:zB W a)(b:Nat)(h:b<W.heap.size):b<a.heap.size/\(∀o,a.cell? ⟨b,o,none⟩=W.cell? ⟨b,o,none⟩)/\(∀o,a.frozen? ⟨b,o,none⟩=W.frozen? ⟨b,o,none⟩)/\(∀o n,a.row? b o n=W.row? b o n)/\(∀n,a.fits b n=W.fits b n)/\
   (∀o c,W.fits b (o+c.size)=true->ones c=true->a.put? b o c=some (a.putRow b o c)):=
 ⟨Nat.lt_of_lt_of_le h hb.size,fun o=>hb.cell (p:=⟨b,o,none⟩) h,fun o=>hb.frozen (p:=⟨b,o,none⟩) h,fun o n=>Below.row? hb b o n h,fun n=>Below.fits hb b n h,
  fun _ _ e d=>put?_fits (by rw[Below.fits hb b _ h];exact e) d⟩
theorem bq{W a:World}(hb:zB W a)(b:Nat)(h:b<W.heap.size:=by first|omega|(simp;done)|(simp;omega)|fail):b<a.heap.size/\(∀o,a.cell? ⟨b,o,none⟩=W.cell? ⟨b,o,none⟩)/\(∀o,a.frozen? ⟨b,o,none⟩=W.frozen? ⟨b,o,none⟩)/\(∀o n,a.row? b o n=W.row? b o n)/\(∀n,a.fits b n=W.fits b n)/\
   (∀o cs,W.fits b (o+cs.size)=true->ones cs=true->a.put? b o cs=some (a.putRow b o cs)):=bk hb b h
theorem bq2{W a:World}(c:zB W a)(b:Nat)(h:b+1<W.heap.size:=by first|omega|(simp;done)|(simp;omega)|fail):(b<a.heap.size/\(∀o,a.cell? ⟨b,o,none⟩=W.cell? ⟨b,o,none⟩)/\(∀o,a.frozen? ⟨b,o,none⟩=W.frozen? ⟨b,o,none⟩)/\(∀o n,a.row? (b) o n=W.row? (b) o n)/\(∀n,a.fits (b) n=W.fits (b) n)/\(∀o cs,W.fits (b) (o+cs.size)=true->ones cs=true->a.put? (b) o cs=some (a.putRow (b) o cs)))/\(b+1<a.heap.size/\(∀o,a.cell? ⟨b+1,o,none⟩=W.cell? ⟨b+1,o,none⟩)/\(∀o,a.frozen? ⟨b+1,o,none⟩=W.frozen? ⟨b+1,o,none⟩)/\(∀o n,a.row? (b+1) o n=W.row? (b+1) o n)/\(∀n,a.fits (b+1) n=W.fits (b+1) n)/\(∀o cs,W.fits (b+1) (o+cs.size)=true->ones cs=true->a.put? (b+1) o cs=some (a.putRow (b+1) o cs))):=And.intro (bq c b (by omega)) (bq c (b+1) h)
theorem bq3{W a:World}(hb:zB W a)(b:Nat)(h:b+1+1<W.heap.size:=by first|omega|(simp;done)|(simp;omega)|fail):(b<a.heap.size/\(∀o,a.cell? ⟨b,o,none⟩=W.cell? ⟨b,o,none⟩)/\(∀o,a.frozen? ⟨b,o,none⟩=W.frozen? ⟨b,o,none⟩)/\(∀o n,a.row? (b) o n=W.row? (b) o n)/\(∀n,a.fits (b) n=W.fits (b) n)/\(∀o c,W.fits (b) (o+c.size)=true->ones c=true->a.put? (b) o c=some (a.putRow (b) o c)))/\(b+1<a.heap.size/\(∀o,a.cell? ⟨b+1,o,none⟩=W.cell? ⟨b+1,o,none⟩)/\(∀o,a.frozen? ⟨b+1,o,none⟩=W.frozen? ⟨b+1,o,none⟩)/\(∀o n,a.row? (b+1) o n=W.row? (b+1) o n)/\(∀n,a.fits (b+1) n=W.fits (b+1) n)/\(∀o c,W.fits (b+1) (o+c.size)=true->ones c=true->a.put? (b+1) o c=some (a.putRow (b+1) o c)))/\(b+1+1<a.heap.size/\(∀o,a.cell? ⟨b+1+1,o,none⟩=W.cell? ⟨b+1+1,o,none⟩)/\(∀o,a.frozen? ⟨b+1+1,o,none⟩=W.frozen? ⟨b+1+1,o,none⟩)/\(∀o n,a.row? (b+1+1) o n=W.row? (b+1+1) o n)/\(∀n,a.fits (b+1+1) n=W.fits (b+1+1) n)/\(∀o c,W.fits (b+1+1) (o+c.size)=true->ones c=true->a.put? (b+1+1) o c=some (a.putRow (b+1+1) o c))):=And.intro (bq hb b (by omega)) (And.intro (bq hb (b+1) (by omega)) (bq hb (b+1+1) h))
theorem Eb{p:List Value->Prop}(v:Value)(h:∃l,p (v :: l)):∃l,p l:=by obtain ⟨l,h⟩:=h;exact ⟨v :: l,h⟩
theorem Ef{p:List Value->Prop}(h:∃l,p (undef :: l)):∃l,p l:=Eb undef h
theorem ae{B:Nat}{a w:World}(h:Below B a w:=by repeat (first|exact Below.refl _ _|exact jv (by assumption)|refine Below.drew ?_|refine below_drewN ?_ _|refine ar ?_ (by first|omega|(simp;done)|(simp;omega)|fail) _ _|refine Below.alloc ?_ (by first|omega|(simp;done)|(simp;omega)|fail) _|refine Below.setCell ?_ (by first|omega|(simp;done)|(simp;omega)|fail) _|refine Below.trans ?_ (Below.mono (by assumption) (by first|omega|(simp;done)|(simp;omega)|fail)))):Below B a w:=h
theorem ad{B:Nat}{a w:World}(h:Below B a w:=by repeat (first|with_reducible exact Below.refl _ _|with_reducible exact jv (by assumption)|with_reducible refine Below.drew ?_|with_reducible refine below_drewN ?_ _|(with_reducible refine ar ?_ ?hB _ _;case hB=>(first|omega|(simp;done)|(simp;omega)))|(with_reducible refine Below.alloc ?_ ?hB _;case hB=>(first|omega|(simp;done)|(simp;omega)))|(with_reducible refine Below.setCell ?_ ?hB _;case hB=>(first|omega|(simp;done)|(simp;omega)))|(with_reducible refine Below.trans ?_ (Below.mono (by assumption) ?hB);case hB=>(first|omega|(simp;done)|(simp;omega))))):Below B a w:=h
theorem cC{w:World}{b:Nat}{c:Array Value}{t:TypeId}(h:Blk w b c t:=by repeat (first|with_reducible assumption|with_reducible exact Blk.new _ _ _|with_reducible refine Blk.alloc ?_ _|with_reducible refine Blk.drew ?_|(with_reducible refine Blk.ac ?_ ?hB _;case hB=>(first|omega|(simp;done)|(simp;omega)))|with_reducible refine Blk.ab ?_ _ _|with_reducible refine Blk.keep ?_ (by assumption))):Blk w b c t:=h
theorem row?_putRow_same{w:World}{b:Nat}(o:Nat)(a:Array Value)(h:w.put? b o a=some (w.putRow b o a)):(w.putRow b o a).row? b o a.size=some a:=by
 unfold World.put? at h;split at h
 ·rename_i c t f;split at h
  ·rename_i e;rw[Bool.and_eq_true,decide_eq_true_eq] at e;have d:Blk w b c t:=f;have:=(d.aK o a).row? o a.size (by rw[jZ _ _ _ e.1];exact e.1);rw[this];congr 1
   have g:(c.toList.take o).length=o:=by rw[List.length_take,Array.length_toList];omega
   apply Array.ext';simp only[splice,Array.toList_extract,List.extract_eq_take_drop];rw[show o+a.size-o=a.toList.length by simp,List.append_assoc,List.drop_left' g,List.take_left]
  ·cases h
 ·cases h
@[go_sem] theorem row?_putRow_all{w : World}{b n : Nat}{a : Array Value}(h : w.fits b a.size=true)(c : ones a=true)(d : a.size=n):(w.putRow b 0 a).row? b 0 n=some a:=by
  subst d;exact row?_putRow_same 0 a (put?_fits (by rw[Nat.zero_add];exact h) c)
theorem cP{w:World}{b n:Nat}{cs:Array Value}(h:w.put? b 0 cs=some (w.putRow b 0 cs))(a:cs.size=n):(w.putRow b 0 cs).row? b 0 n=some cs:=by
 subst a;exact row?_putRow_same 0 cs h
theorem nj{w:World}{b i:Nat}{v:Value}(h:w.cell? ⟨b,i,none⟩=some v):∃c t a,w.heap[b]?=some (.cells c t a):=by
 unfold World.cell? at h;cases hb:w.heap[b]? with
 | none=>simp[hb] at h
 | some o=>
  cases o with
  | cells c t a=>exact⟨c,t,a,rfl⟩
  | _=>simp[hb] at h
theorem ek{w:World}{b:Nat}(n:Nat)(d:Array Value)(k:d.size=n+1)(h:∀i,i<n+1->w.cell? ⟨b,i,none⟩=d[i]?):w.row? b 0 (n+1)=some d:=by
 have g:∀i (a:i<n+1),w.cell? ⟨b,i,none⟩=some (d[i]'(by omega)):=fun i a=>by rw[h i a,Array.getElem?_eq_getElem]
 obtain⟨c,t,l,j⟩:=nj (g 0 (by omega));have f:∀i (a:i<n+1),c[i]?=some (d[i]'(by omega)):=fun i a=>by rw[<-g i a,cell_of_row w b i c t l j]
 have m:n+1<=c.size:=by
  rcases Nat.lt_or_ge n c.size with e|e
  ·exact e
  ·have:=f n (by omega);rw[Array.getElem?_eq_none e] at this;cases this
 unfold World.row?;simp only[j];rw[if_pos (by omega)];congr 1
 apply Array.ext
 ·simp[k];omega
 ·intro i p o;have:=f i (by omega);rw[Array.getElem?_eq_getElem (by omega)] at this;simpa using Option.some.inj this
theorem rc2{w:World}{b:Nat}{c a:Value}(d:w.cell? ⟨b,0,none⟩=some c:=by go_simp)(e:w.cell? ⟨b,1,none⟩=some a:=by go_simp):w.row? b 0 2=some #[c,a]:=ek 1 _ rfl (by intro i f;rcases i with _|_|i;exact d;exact e;exact absurd f (by omega))
theorem rc3{w:World}{b:Nat}{d a c:Value}(e:w.cell? ⟨b,0,none⟩=some d:=by go_simp)(g:w.cell? ⟨b,1,none⟩=some a:=by go_simp)(f:w.cell? ⟨b,2,none⟩=some c:=by go_simp):w.row? b 0 3=some #[d,a,c]:=ek 2 _ rfl (by intro i h;rcases i with _|_|_|i;exact e;exact g;exact f;exact absurd h (by omega))
theorem rc5{w:World}{b:Nat}{f c d e a:Value}(g:w.cell? ⟨b,0,none⟩=some f:=by go_simp)(l:w.cell? ⟨b,1,none⟩=some c:=by go_simp)(h:w.cell? ⟨b,2,none⟩=some d:=by go_simp)(k:w.cell? ⟨b,3,none⟩=some e:=by go_simp)(j:w.cell? ⟨b,4,none⟩=some a:=by go_simp):w.row? b 0 5=some #[f,c,d,e,a]:=ek 4 _ rfl (by intro i m;rcases i with _|_|_|_|_|i;exact g;exact l;exact h;exact k;exact j;exact absurd m (by omega))
theorem rc6{w:World}{b:Nat}{g c d f a e:Value}(h:w.cell? ⟨b,0,none⟩=some g:=by go_simp)(m:w.cell? ⟨b,1,none⟩=some c:=by go_simp)(j:w.cell? ⟨b,2,none⟩=some d:=by go_simp)(l:w.cell? ⟨b,3,none⟩=some f:=by go_simp)(k:w.cell? ⟨b,4,none⟩=some a:=by go_simp)(n:w.cell? ⟨b,5,none⟩=some e:=by go_simp):w.row? b 0 6=some #[g,c,d,f,a,e]:=ek 5 _ rfl (by intro i o;rcases i with _|_|_|_|_|_|i;exact h;exact m;exact j;exact l;exact k;exact n;exact absurd o (by omega))
theorem cl2{w:World}{z:Nat}{b a:Value}{t:TypeId}(h:Hid (Blk w z #[b,a] t)):w.cell? ⟨z,0,none⟩=some b/\w.cell? ⟨z,1,none⟩=some a:=⟨h.out.cell rfl,h.out.cell rfl⟩
theorem cl3{w:World}{z:Nat}{c b a:Value}{t:TypeId}(h:Hid (Blk w z #[c,b,a] t)):w.cell? ⟨z,0,none⟩=some c/\w.cell? ⟨z,1,none⟩=some b/\w.cell? ⟨z,2,none⟩=some a:=⟨h.out.cell rfl,h.out.cell rfl,h.out.cell rfl⟩
theorem cl5{w:World}{z:Nat}{e c a d b:Value}{t:TypeId}(h:Hid (Blk w z #[e,c,a,d,b] t)):w.cell? ⟨z,0,none⟩=some e/\w.cell? ⟨z,1,none⟩=some c/\w.cell? ⟨z,2,none⟩=some a/\w.cell? ⟨z,3,none⟩=some d/\w.cell? ⟨z,4,none⟩=some b:=⟨h.out.cell rfl,h.out.cell rfl,h.out.cell rfl,h.out.cell rfl,h.out.cell rfl⟩
theorem cl6{w:World}{z:Nat}{f d b e c a:Value}{t:TypeId}(h:Hid (Blk w z #[f,d,b,e,c,a] t)):w.cell? ⟨z,0,none⟩=some f/\w.cell? ⟨z,1,none⟩=some d/\w.cell? ⟨z,2,none⟩=some b/\w.cell? ⟨z,3,none⟩=some e/\w.cell? ⟨z,4,none⟩=some c/\w.cell? ⟨z,5,none⟩=some a:=⟨h.out.cell rfl,h.out.cell rfl,h.out.cell rfl,h.out.cell rfl,h.out.cell rfl,h.out.cell rfl⟩
theorem wD{w:World}{z:Nat}{o k g n i f m l j e d b c a:Value}{t:TypeId}(h:Hid (Blk w z #[o,k,g,n,i,f,m,l,j,e,d,b,c,a] t)):w.cell? ⟨z,0,none⟩=some o/\w.cell? ⟨z,1,none⟩=some k/\w.cell? ⟨z,2,none⟩=some g/\w.cell? ⟨z,3,none⟩=some n/\w.cell? ⟨z,4,none⟩=some i/\w.cell? ⟨z,5,none⟩=some f/\w.cell? ⟨z,6,none⟩=some m/\w.cell? ⟨z,7,none⟩=some l/\w.cell? ⟨z,8,none⟩=some j/\w.cell? ⟨z,9,none⟩=some e/\w.cell? ⟨z,10,none⟩=some d/\w.cell? ⟨z,11,none⟩=some b/\w.cell? ⟨z,12,none⟩=some c/\w.cell? ⟨z,13,none⟩=some a:=⟨h.out.cell rfl,h.out.cell rfl,h.out.cell rfl,h.out.cell rfl,h.out.cell rfl,h.out.cell rfl,h.out.cell rfl,h.out.cell rfl,h.out.cell rfl,h.out.cell rfl,h.out.cell rfl,h.out.cell rfl,h.out.cell rfl,h.out.cell rfl⟩
theorem yW{w:World}{z:Nat}{o v q n r p x u s m i f g d j a c l k e b:Value}{t:TypeId}(h:Hid (Blk w z #[o,v,q,n,r,p,x,u,s,m,i,f,g,d,j,a,c,l,k,e,b] t)):w.cell? ⟨z,0,none⟩=some o/\w.cell? ⟨z,1,none⟩=some v/\w.cell? ⟨z,2,none⟩=some q/\w.cell? ⟨z,3,none⟩=some n/\w.cell? ⟨z,4,none⟩=some r/\w.cell? ⟨z,5,none⟩=some p/\w.cell? ⟨z,6,none⟩=some x/\w.cell? ⟨z,7,none⟩=some u/\w.cell? ⟨z,8,none⟩=some s/\w.cell? ⟨z,9,none⟩=some m/\w.cell? ⟨z,10,none⟩=some i/\w.cell? ⟨z,11,none⟩=some f/\w.cell? ⟨z,12,none⟩=some g/\w.cell? ⟨z,13,none⟩=some d/\w.cell? ⟨z,14,none⟩=some j/\w.cell? ⟨z,15,none⟩=some a/\w.cell? ⟨z,16,none⟩=some c/\w.cell? ⟨z,17,none⟩=some l/\w.cell? ⟨z,18,none⟩=some k/\w.cell? ⟨z,19,none⟩=some e/\w.cell? ⟨z,20,none⟩=some b:=⟨h.out.cell rfl,h.out.cell rfl,h.out.cell rfl,h.out.cell rfl,h.out.cell rfl,h.out.cell rfl,h.out.cell rfl,h.out.cell rfl,h.out.cell rfl,h.out.cell rfl,h.out.cell rfl,h.out.cell rfl,h.out.cell rfl,h.out.cell rfl,h.out.cell rfl,h.out.cell rfl,h.out.cell rfl,h.out.cell rfl,h.out.cell rfl,h.out.cell rfl,h.out.cell rfl⟩
theorem Lh{p:Prop}(h:p):Hid p:=Lib.hid h
theorem Kp{w w':World}{z:Nat}{c:Array Value}{t:TypeId}(h:Hid (Blk w z c t))(a:zB w w'):Hid (Blk w' z c t):=Lib.hid (h.out.keep a)
theorem Tp{a w b:World}(h:Hid (zB a w))(c:zB w b):Hid (zB a b):=Lib.hid (h.out.trans (c.mono h.out.size))
open Go.RowKit
def rowW(n N:Nat):Array Value:=Array.ofFn (n:=n) fun i=>.int .u64 (wd N i)
theorem cL(n N i:Nat)(h:i<n):(rowW n N)[i]?=some (.int .u64 (wd N i)):=by simp [rowW,h]
@[simp] theorem aD(n N : Nat):(rowW n N).size=n:=by simp [rowW]
theorem mi(n N:Nat):rowW n (N%2^(64*n))=rowW n N:=by
 unfold rowW;congr 1;funext i;rw[CZ N n i i.2]
theorem bN(n N:Nat):(rowW n N).all (·.oneCell')=true:=by
 rw[Array.all_eq_true];intro i a;simp[rowW,Value.oneCell']
theorem cp(n N k v:Nat)(b:v<18446744073709551616):(rowW n N).setIfInBounds k (.int .u64 (v:Int))=rowW n (bZ N k v):=by
 apply Array.ext
 ·simp
 ·intro i c d;simp at c d;by_cases a:k=i
  ·subst a;simp[rowW,wd,mW N k v b]
  ·rw[Array.getElem_setIfInBounds_ne (by simpa using c) a];simp[rowW,wd,lH N k v i b (Ne.symm a)]
theorem xk(N k:Nat):bZ (N%2^(64*k)) k (wdn N k)=N%2^(64*(k+1)):=by
 have h:wdn (N%2^(64*k)) k+wdn N k=wdn N k:=by
  rw[co _ k k (Nat.mod_lt _ (Nat.two_pow_pos _)) (Nat.le_refl _),Nat.zero_add]
 rw[fZ _ _ _ _ h,cj,Nat.mul_comm (wdn N k)]
theorem gR(n N k:Nat):(rowW n (N%2^(64*k))).setIfInBounds k (.int .u64 (wd N k))=rowW n (N%2^(64*(k+1))):=by
 have:=cp n (N%2^(64*k)) k (wdn N k) (bB N k);rw[xk] at this;exact this
theorem cG:rowW 16 0=#[.int .u64 0,.int .u64 0,.int .u64 0,.int .u64 0,.int .u64 0,.int .u64 0,.int .u64 0,.int .u64 0,.int .u64 0,.int .u64 0,.int .u64 0,.int .u64 0,.int .u64 0,.int .u64 0,.int .u64 0,.int .u64 0]:=by
 simp[rowW,Array.ofFn_succ,oK]
def dm(w:World)(b o N:Nat):Prop:=∀i,i<16->w.cell? ⟨b,o+i,none⟩=some (.int .u64 (wd N i))/\b<w.heap.size
theorem dm.below{w w':World}{b o N:Nat}(h:dm w b o N)(hb:zB w w'):dm w' b o N:=fun i a=>
 ⟨by rw[hb.cell (p:=⟨b,o+i,none⟩) (h i a).2];exact(h i a).1,Nat.lt_of_lt_of_le (h i a).2 hb.size⟩
theorem dm.lt{w:World}{b o N:Nat}(h:dm w b o N):b<w.heap.size:=(h 0 (by decide)).2
theorem dm.bT{w:World}{b N:Nat}{t:TypeId}(h:Blk w b (rowW 16 N) t):dm w b 0 N:=fun i a=>
 ⟨h.cell (by rw[Nat.zero_add];exact cL 16 N i a),h.lt⟩
@[irreducible] def lim:Nat:=2 ^ 1023
theorem pE(n:Nat)(h:n=1023):lim=2^n:=by subst h;unfold lim;rfl
theorem dP:0<lim:=by unfold lim;exact Nat.two_pow_pos 1023
@[irreducible] def W16:Nat:=2 ^ (64 * 16)
theorem jS(n:Nat)(h:n=16):W16=2^(64*n):=by subst h;unfold W16;rfl
theorem pQ{N n:Nat}(a:N<W16)(h:n=16):N<2^(64*n):=by rw [<-jS n h];exact a
def LtW(N k:Nat):Prop:=N<2^(64*k)
theorem LtW.of_eq{N k:Nat}(b:k=16)(a:N<W16):LtW N k:=pQ a b
theorem LtW.of16{N:Nat}(a:N<W16):LtW N 16:=.of_eq rfl a
theorem LtW.div{N k:Nat}(h:LtW N k):N/2^(64*k)=0:=Nat.div_eq_of_lt h
theorem cq{k:IntKind}{a b:Int}(h:a=b):Ending.returned (.int k a)=.returned (.int k b):=by rw [h]
theorem mz(n:Nat)(h:1023<=n):lim<=2^n:=by unfold lim;exact dL 1023 n h
theorem mB:lim<=W16:=by
 have h:∀n,n=16->lim<=2^(64*n):=fun n a=>mz _ (by omega);have:=h 16 rfl;rwa [<-jS 16 rfl] at this
theorem Cw:0<W16:=Nat.lt_of_lt_of_le dP mB
theorem iE(N:Nat):bl N<=1023↔N<lim:=by unfold lim;exact cE N 1023
structure WI where
 v:Option Int
 ok:∀z,v=some z->z.natAbs<lim
theorem WI.ext'{x y:WI}(h:x.v=y.v):x=y:=by cases x;cases y;cases h;rfl
def WI.over:WI:=⟨none,fun _ h=>by cases h⟩
def WI.of(z:Int):WI:=⟨if z.natAbs<lim then some z else none,fun y h=>by
 split at h
 ·cases h;assumption
 ·cases h⟩
def cellsI(neg over:Bool)(N:Nat):Array Value:=#[.bool neg,.bool over]++rowW 16 N
def WI.cells(x:WI):Array Value:=match x.v with
 | none=>cellsI false true 0
 | some z=>cellsI (decide (z<0)) false z.natAbs
@[simp] theorem kF(n o : Bool)(N : Nat):(cellsI n o N).size=18:=by simp [cellsI]
theorem rB(n o:Bool)(N:Nat):(cellsI n o N)[0]?=some (.bool n):=by simp [cellsI]
theorem rA(n o:Bool)(N:Nat):(cellsI n o N)[1]?=some (.bool o):=by simp [cellsI]
theorem kE(n o:Bool)(N i:Nat)(h:i<16):(cellsI n o N)[2+i]?=some (.int .u64 (wd N i)):=by
 unfold cellsI;rw[Array.getElem?_append_right (by simp)];simp only[List.size_toArray,List.length_cons,List.length_nil];rw[show 2+i-(0+1+1)=i by omega,cL 16 N i h]
@[simp] theorem WI.Eg(x : WI):x.cells.size=18:=by unfold WI.cells; split<;>simp
def WI.ng(x:WI):Bool:=match x.v with|none=>false|some z=>decide (z<0)
def WI.ov(x:WI):Bool:=x.v.isNone
def WI.sz(x:WI):Nat:=match x.v with|none=>0|some z=>z.natAbs
theorem WI.dc(x:WI):x.cells=cellsI x.ng x.ov x.sz:=by
 unfold WI.cells WI.ng WI.ov WI.sz;cases x.v<;>rfl
theorem WI.jX(x:WI):x.sz<lim:=by
 unfold WI.sz;cases h:x.v with
 | none=>exact dP
 | some z=>exact x.ok z h
theorem WI.bC(x:WI):x.sz<W16:=Nat.lt_of_lt_of_le x.jX mB
theorem mR(n o:Bool)(N:Nat):(cellsI n o N).all (·.oneCell')=true:=by
 rw[Array.all_eq_true];intro i a;simp only[cellsI,rowW,Array.getElem_append,Array.getElem_ofFn];split
 ·rename_i h;simp at h;rcases i with _|_|i<;>first|rfl|omega
 ·rfl
@[simp] theorem Eh(n o : Bool)(N : Nat):(cellsI n o N).extract 0 18=cellsI n o N:=by
  have:=Array.extract_size (xs:=cellsI n o N);rwa [kF] at this
@[simp] theorem wF(n o : Bool)(N : Nat):(cellsI n o N).extract 2 18=rowW 16 N:=by
  unfold cellsI;rw[Array.extract_append];simp
@[simp] theorem Fv(N : Nat):(rowW 16 N).extract 0 16=rowW 16 N:=by
  have:=Array.extract_size (xs:=rowW 16 N);rwa [aD] at this
theorem dm.DG{w:World}{b N:Nat}{n o:Bool}{t:TypeId}(h:Blk w b (cellsI n o N) t):dm w b 2 N:=fun i a=>
 ⟨h.cell (kE n o N i a),h.lt⟩
theorem WI.pN(x:WI):x.cells[0]?=some (.bool x.ng):=by rw [x.dc];exact rB _ _ _
theorem WI.BQ(x:WI):x.cells[1]?=some (.bool x.ov):=by rw [x.dc];exact rA _ _ _
@[simp] theorem WI.EJ(x : WI):x.cells.extract 0 18=x.cells:=by rw [x.dc]; simp
@[simp] theorem WI.wS(x : WI):x.cells.extract 2 18=rowW 16 x.sz:=by rw [x.dc]; simp
@[simp] theorem Ew(n N : Nat):ones (rowW n N)=true:=bN n N
@[simp] theorem CT(n o : Bool)(N : Nat):ones (cellsI n o N)=true:=mR n o N
@[simp] theorem WI.tE(x : WI):ones x.cells=true:=by rw [x.dc]; simp
theorem dm.da{w:World}{b:Nat}{x:WI}{t:TypeId}(h:Blk w b x.cells t):dm w b 2 x.sz:=.DG (h.of_eq x.dc)
theorem cO{c:Array Value}{i:Nat}{v:Value}(h:c[i]?=some v)(a:i<c.size):c[i]=v:=by
 rw[Array.getElem?_eq_getElem a] at h;exact Option.some.inj h
@[simp] theorem E4(n o : Bool)(N : Nat)(h : 0 < (cellsI n o N).size):(cellsI n o N)[0]=.bool n:=cO (rB n o N) h
@[simp] theorem EY(n o : Bool)(N : Nat)(h : 1 < (cellsI n o N).size):(cellsI n o N)[1]=.bool o:=cO (rA n o N) h
@[simp] theorem WI.FS(x : WI)(h : 0 < x.cells.size):x.cells[0]=.bool x.ng:=cO x.pN h
@[simp] theorem WI.FQ(x : WI)(h : 1 < x.cells.size):x.cells[1]=.bool x.ov:=cO x.BQ h
@[simp] theorem rz(n o x : Bool)(N : Nat):(cellsI n o N).setIfInBounds 0 (.bool x)=cellsI x o N:=by
  unfold cellsI;rw[Array.setIfInBounds_append_left (by simp)];rfl
@[simp] theorem ry(n o x : Bool)(N : Nat):(cellsI n o N).setIfInBounds 1 (.bool x)=cellsI n x N:=by
  unfold cellsI;rw[Array.setIfInBounds_append_left (by simp)];rfl
@[simp] theorem BT(n o x : Bool)(N : Nat):(cellsI n o N).toList.set 0 (.bool x)=(cellsI x o N).toList:=by
  rw[<-rz n o x N,Array.toList_setIfInBounds]
@[simp] theorem BR(n o x : Bool)(N : Nat):(cellsI n o N).toList.set 1 (.bool x)=(cellsI n x N).toList:=by
  rw[<-ry n o x N,Array.toList_setIfInBounds]
@[simp] theorem ET(n o : Bool)(N : Nat):(cellsI n o N=#[])=False:=by
  apply eq_false;intro h;have:=kF n o N;rw[h] at this;cases this
@[simp] theorem mZ(n o : Bool)(N M : Nat):splice (cellsI n o N) 2 (rowW 16 M)=cellsI n o M:=by
  unfold splice cellsI;apply Array.ext';simp
@[simp] theorem CR(n o : Bool)(N M : Nat):Array.foldl (fun (b : Array Value) (x : Value×Nat)=>b.setIfInBounds (2 + x.snd) x.fst) (cellsI n o N) (rowW 16 M).zipIdx 0 16=cellsI n o M:=by
  have:=je (cellsI n o N) (rowW 16 M) 2 (by simp);rw[mZ] at this;have a:(rowW 16 M).zipIdx.size=16:=by rw[Array.size_zipIdx,aD]
  rw[a] at this;exact this
def WI.neg(x:WI):WI:=match x.v with|some a=>WI.of (-a)|none=>WI.over
def WI.add(x y:WI):WI:=match x.v,y.v with|some a,some b=>WI.of (a+b)|_,_=>WI.over
def WI.sub(x y:WI):WI:=x.add y.neg
def WI.mul(x y:WI):WI:=match x.v,y.v with|some a,some b=>WI.of (a*b)|_,_=>WI.over
def WI.sign(x:WI):Int:=match x.v with|some a=>a.sign|none=>0
theorem WI.pq{z:Int}(h:¬z.natAbs<lim):WI.of z=WI.over:=by apply WI.ext';unfold WI.of WI.over;exact if_neg h
theorem WI.of_v{z:Int}(h:z.natAbs<lim):(WI.of z).v=some z:=by unfold WI.of;exact if_pos h
def sgn(neg:Bool)(N:Nat):Int:=if neg then -(N:Int) else N
theorem dr(n:Bool)(N:Nat):(sgn n N).natAbs=N:=by unfold sgn;split<;>omega
theorem WI.qD{n:Bool}{N:Nat}(h:1023<bl N):(WI.of (sgn n N)).cells=cellsI false true 0:=by
 rw[WI.pq]
 ·rfl
 ·rw[dr,<-iE];omega
theorem WI.pp{n:Bool}{N:Nat}(h:bl N<=1023):(WI.of (sgn n N)).cells=cellsI (n&&(decide (N≠0))) false N:=by
 have a:(sgn n N).natAbs<lim:=by rw[dr];exact(iE N).1 h
 rw[WI.dc];unfold WI.ng WI.ov WI.sz;rw[WI.of_v a];simp only[dr,Option.isNone_some];congr 1
 cases n
 ·simp[sgn]
 ·rw[Bool.true_and,decide_eq_decide];unfold sgn;simp only[if_true];omega
def Sm(k:Nat)(z:Int):Prop:=z.natAbs<=2^k
theorem Sm.mul{j k:Nat}{a b:Int}(d:Sm j a)(c:Sm k b):Sm (j+k) (a*b):=by
 unfold Sm at *;rw[Int.natAbs_mul,Nat.pow_add];exact Nat.mul_le_mul d c
theorem Sm.mono{j k:Nat}{a:Int}(b:Sm j a)(h:j<=k):Sm k a:=Nat.le_trans b (dL j k h)
theorem Sm.add{k:Nat}{a b:Int}(d:Sm k a)(c:Sm k b):Sm (k+1) (a+b):=by
 unfold Sm at *;rw[Nat.pow_succ];omega
theorem Sm.neg{k:Nat}{a:Int}(b:Sm k a):Sm k (-a):=by
 unfold Sm at *;rw[Int.natAbs_neg];exact b
theorem Sm.sub{k:Nat}{a b:Int}(d:Sm k a)(c:Sm k b):Sm (k+1) (a-b):=by
 rw[Int.sub_eq_add_neg];exact d.add c.neg
theorem Sm.lim{k:Nat}{a:Int}(d:Sm k a)(h:k<=1022):a.natAbs<lim:=by
 have b:∀n,k<n->a.natAbs<2^n:=fun n c=>Nat.lt_of_le_of_lt d (Nat.pow_lt_pow_right (by decide) c);rw[pE 1023 rfl];exact b 1023 (by omega)
theorem Sm.of64{z:Int}(b : -9223372036854775808<=z)(a:z<=9223372036854775807):Sm 63 z:=by
 unfold Sm;omega
theorem WI.ce{a b:Int}(d:a.natAbs<lim)(c:b.natAbs<lim):(WI.of a).add (WI.of b)=WI.of (a+b):=by
 unfold WI.add;rw[WI.of_v d,WI.of_v c]
theorem WI.of_neg{a:Int}(b:a.natAbs<lim):(WI.of a).neg=WI.of (-a):=by
 unfold WI.neg;rw[WI.of_v b]
theorem WI.ez{a b:Int}(d:a.natAbs<lim)(c:b.natAbs<lim):(WI.of a).sub (WI.of b)=WI.of (a-b):=by
 unfold WI.sub;rw[WI.of_neg c,WI.ce d (by rw[Int.natAbs_neg];exact c),Int.sub_eq_add_neg]
theorem WI.au{a b:Int}(d:a.natAbs<lim)(c:b.natAbs<lim):(WI.of a).mul (WI.of b)=WI.of (a*b):=by
 unfold WI.mul;rw[WI.of_v d,WI.of_v c]
theorem WI.di{a:Int}(b:a.natAbs<lim):(WI.of a).sign=a.sign:=by
 unfold WI.sign;rw[WI.of_v b]
open Go.RowKit
section
variable {P:Program}
theorem oU(e:TypeId)(b:P.underlying e=some (.int .u64))(w:World)(n N i:Nat)(h:i<n):(part e (rowW n N) i).run P w=.ok (.int .u64 (wd N i)) w:=by
 have a:(isAgg e).run P w=.ok false w:=by
  unfold isAgg;rw[Sem.run_bind,run_underlying b w];rfl
 unfold part;rw[Sem.run_bind,a];simp only[Result.andThen_ok,Bool.false_eq_true,if_false,cL n N i h];rfl
theorem iu(d:Nat)(e:TypeId)(f:P.underlying e=some (.int .u64))(n N M:Nat):∀(l:List Nat) (w:World),(∀i∈l,i<n)->
  ((forIn (m := Sem) l ((none, ()) : Option Bool × Unit) fun i _ => do
      let a <-part e (rowW n N) (i*1)
      let b <-part e (rowW n M) (i*1)
      let r <-Op.equalIn (d+1) e a b
      if (!r)=true then pure (ForInStep.done (some false,())) else pure (ForInStep.yield (none,()))) >>= fun r=>
       match r.fst with|some a=>pure a|none=>pure true).run P w=.ok (l.all fun i=>decide (wd N i=wd M i)) w
 | [],w,_=>by simp
 | i :: l,w,h=>by
  have g:=iu d e f n N M l w (fun j o=>h j (List.mem_cons_of_mem _ o))
  have p:=h i (List.mem_cons_self ..)
  simp only[Sem.run_bind] at g ⊢
  simp only[List.forIn_cons,Sem.run_bind,Nat.mul_one,oU e f w n _ i p,Result.andThen_ok,run_equalIn_int w d e .u64 .u64 _ _ f]
  by_cases c:wd N i=wd M i
  ·simp only[c,beq_self_eq_true,Bool.not_true,Bool.false_eq_true,if_false,Sem.run_pure,Result.andThen_ok,List.all_cons,decide_true,Bool.true_and]
   simpa only [Nat.mul_one] using g
  ·have k:(wd N i==wd M i)=false:=by simp[c]
   simp[k,c,Result.andThen_ok]
theorem kJ(d:Nat)(t e:TypeId)(n N M:Nat)(w:World)(h:P.underlying t=some (.array n e))(f:P.underlying e=some (.int .u64))(c:(P.info? e).map (·.size)=some 1):(Op.equalIn (d+2) t (.agg (rowW n N)) (.agg (rowW n M))).run P w=.ok ((List.range n).all fun i=>decide (wd N i=wd M i)) w:=by
 have g:(sizeOf e).run P w=.ok 1 w:=by
  cases hq:P.info? e with
  | none=>simp[hq] at c
  | some i => have : i.size = 1 := by simpa [hq] using c
              simp[sizeOf,typeInfo,hq,this]
 have b:=iu d e f n N M (List.range n) w (fun i j=>List.mem_range.1 j);rw[Op.equalIn,Sem.run_bind,run_underlying h];simp only[Result.andThen_ok,Sem.run_bind,g];simp only[Sem.run_bind] at b;rw[Std.Legacy.Range.forIn_eq_forIn_range'];simp only[Std.Legacy.Range.size,Nat.sub_zero,Nat.add_sub_cancel,Nat.div_one,<-List.range_eq_range'];refine Eq.trans ?_ b;congr 1
 funext a w'
 cases a.fst<;>rfl
end
theorem rM(N:Nat)(b:N<W16):((List.range 16).all fun i=>decide (wd N i=wd 0 i))=decide (N=0):=by
 by_cases h:N=0
 ·subst h;simp
 ·simp only[h,decide_false];rw[Bool.eq_false_iff];intro a;rw[List.all_eq_true] at a;apply h;refine wu 16 N 0 (LtW.of16 b) (LtW.of16 Cw) fun i c=>?_;have:=of_decide_eq_true (a i (List.mem_range.2 c));unfold wd at this;omega
def eqW(N M:Nat):Bool:=(List.range 16).all fun i=>decide (wd N i=wd M i)
theorem eD(N:Nat)(a:N<W16):eqW N 0=decide (N=0):=rM N a
open Go.RowKit
theorem ay{w a:World}(h:∃p:Regrown,a=Go.Sort.grow (redrawn w p.d) p.os):zB w a:=by
 obtain⟨⟨d,b⟩,rfl⟩:=h;exact below_regrown w d b
end Go.Proofs.YtechbdnhalmobaaGreatDoor
