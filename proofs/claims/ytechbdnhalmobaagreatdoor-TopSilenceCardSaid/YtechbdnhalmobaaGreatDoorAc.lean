/- Walks. -/
import Derived.Test.YtechbdnhalmobaaGreatDoorN0
import Derived.Maps.OwnSet
import Derived.BigRegion
import Derived.Shelf.SlIterI.Nil
import Derived.Shelf.SortM.Plain
import Derived.Shelf.SortM.SortNone
import Derived.Deep.LoopGhost
namespace Go.Proofs.YtechbdnhalmobaaGreatDoor
set_option linter.unusedSimpArgs false
set_option linter.unusedVariables false
set_option maxRecDepth 100000
set_option maxHeartbeats 16000000
open Go.RowKit Go.Maps
open Go.Proofs.Tryz
open Go.RowKit
open Go.RowKit Go.Maps Go.Sort Go.Shelf
structure bg (S:Nat->Prop) (w w':World):Prop where
 os:w'.os=w.os
 tape:w'.tape=w.tape
 output:w'.output=w.output
 size:w.heap.size<=w'.heap.size
 block:∀k,k<w.heap.size->¬S k->w'.heap[k]? = w.heap[k]?
def Sn(S:Nat->Prop)(w:World)(k:Nat):Prop:=S k∨w.heap.size<=k
section
variable {S S':Nat->Prop} {w w' w'':World}
theorem bg.refl:bg S w w:=⟨rfl,rfl,rfl,Nat.le_refl _,fun _ _ _=>rfl⟩
theorem bg.of_below(h:zB w w'):bg S w w':=⟨h.os,h.tape,h.output,h.size,fun k a _=>h.block k a⟩
theorem bg.cU{g:Nat}(h:ah g w w')(d:Sn S w g):bg S w w':=
 ⟨h.os,h.tape,h.output,h.size,fun k c f=>h.block k c (fun e=>by subst e;rcases d with a|a;exact f a;omega)⟩
theorem bg.trans(h:bg S w w')(a:bg S' w' w'')(f:∀k,k<w.heap.size->S' k->S k):bg S w w'':=
 ⟨a.os.trans h.os,a.tape.trans h.tape,a.output.trans h.output,Nat.le_trans h.size a.size,fun k c d=>(a.block k (Nat.lt_of_lt_of_le c h.size) (fun e=>d (f k c e))).trans (h.block k c d)⟩
theorem bg.mono(h:bg S w w')(d:∀k,k<w.heap.size->S k->S' k):bg S' w w':=⟨h.os,h.tape,h.output,h.size,fun k a c=>h.block k a (fun e=>c (d k a e))⟩
theorem bg.wg(h:bg S w w')(c:zB w' w''):bg S w w'':=h.trans (bg.of_below (S:=S) c) (fun _ _ a=>a)
theorem bg.gZ{g:Nat}(h:bg S w w')(a:ah g w' w'')(f:Sn S w g):bg S w w'':=
 h.trans (S':=fun k=>k=g) ⟨a.os,a.tape,a.output,a.size,fun k c i=>a.block k c i⟩ (fun k c e=>by subst e;rcases f with d|d;exact d;omega)
theorem bg.alloc(h:bg S w w')(o:Obj):bg S w (w'.alloc o):=h.wg ((Below.refl _ _).alloc (Nat.le_refl _) _)
theorem bg.drew(h:bg S w w'):bg S w w'.drew:=⟨h.os,h.tape,h.output,h.size,h.block⟩
theorem bg.setCell(h:bg S w w'){g:Nat}(a:Sn S w g)(i:Nat)(v:Value):bg S w (w'.setCell ⟨g,i,none⟩ v):=h.gZ (ah.refl.setCell i v) a
theorem bg.blk(h:bg S w w'){b:Nat}{c:Array Value}{t:TypeId}(hb:Blk w b c t)(a:¬S b):Blk w' b c t:=(h.block b hb.lt a).trans hb
theorem bg.below{B:Nat}{w0:World}(h:bg S w w')(hb:Below B w0 w)(hB:B<=w0.heap.size)(a:∀k,S k->B<=k):Below B w0 w':=
 ⟨h.os.trans hb.os,h.tape.trans hb.tape,h.output.trans hb.output,Nat.le_trans hb.size h.size,fun k c=>(h.block k (by have:=hb.size;omega) (fun e=>by have:=a k e;omega)).trans (hb.block k c)⟩
end
def KU(v:Value):Option (DataW Value×List MemPlace):=some (.held v,[])
def mapD(m:List (Int×Value)):DataW Value:=.map (m.map fun p=>(.int .i64 p.1,.held p.2))
theorem Pr(m:List (Int×Value))(k:Int):Maps.has (mapD m) (.int .i64 k)=(lk m k).isSome:=by
 unfold mapD lk;rw[Maps.has_eq,List.any_map,Option.isSome_map,List.isSome_find?];congr 1
 funext p;simp[Lit.sameKey]
theorem Mp(m:List (Int×Value))(k:Int)(z:Value):(mapD m).atKey (.int .i64 k) (.held z)=.held ((lk m k).getD z):=by
 unfold mapD DataW.atKey lk;simp only;rw[List.find?_map];have e:((fun p:Lit×DataW Value=>p.1.sameKey (.int .i64 k)) ∘ fun p:Int×Value=>((.int .i64 p.1:Lit),(.held p.2:DataW Value)))=fun p=>decide (p.1=k):=by funext p;simp[Lit.sameKey]
 rw[e];cases m.find? (fun p=>decide (p.1=k))<;>rfl
theorem IK(m:List (Int×Value))(k:Int):(mapD m).del (.int .i64 k)=mapD (del m k):=by
 unfold mapD DataW.del del;simp only;rw[List.filter_map];congr 2
 congr 1
 funext p;simp[Lit.sameKey]
theorem Js(x:Int×Value):∀m:List (Int×Value),DataW.insert ((.int .i64 x.1:Lit),(.held x.2:DataW Value)) (m.map fun p=>(.int .i64 p.1,.held p.2))=(Ic x m).map fun p=>(.int .i64 p.1,.held p.2)
 | []=>rfl
 | y :: r=>by
  simp only[List.map_cons,DataW.insert,Ic,Lit.before]
  by_cases h:x.1<y.1
  ·simp[h]
  ·simp[h,Js x r]
theorem Pq(m:List (Int×Value))(k:Int)(v:Value):(mapD m).put (.int .i64 k) (.held v)=mapD (ins m k v):=by
 have h:=IK m k;unfold mapD DataW.del at h;simp only[DataW.map.injEq] at h;unfold mapD DataW.put ins;simp only;rw[h];exact congrArg DataW.map (Js (k,v) _)
def dl(w:World)(b:Nat)(m:List (Int×Value)):Prop:=w.ownsMap Tryz.prog 3 KU b m.length (mapD m)
theorem dl.JR{w:World}{b n:Nat}{m:List (Int×Value)}(h:w.ownsMap Tryz.prog 3 KU b n (mapD m)):dl w b m:=by
 obtain⟨e,a,d,F,f,c⟩:=h;refine⟨e,a,d,F,?_,c⟩;unfold mapD at c;simp only[DataW.map.injEq] at c;have:=congrArg List.length c;rw[length_sorted] at this;simp at this;omega
theorem dl.new(w:World):dl (w.alloc (.map #[] 0)) w.heap.size []:=World.ownsMap_made _ _ _ _
section
variable {w w':World} {b:Nat} {m:List (Int×Value)} (h:dl w b m)
include h
theorem dl.lt:b<w.heap.size:=World.ownsMap.lt h
theorem dl.kept(e:w'.heap[b]? = w.heap[b]?):dl w' b m:=by
 obtain⟨g,a,d,F,f,c⟩:=h;exact⟨g,a,e.trans d,F,f,c⟩
theorem dl.below(hb:zB w w'):dl w' b m:=dl.kept h (hb.block b (dl.lt h))
theorem dl.only{g:Nat}(a:ah g w w')(hne:b≠g):dl w' b m:=dl.kept h (a.block b (dl.lt h) hne)
theorem dl.turns{S:Nat->Prop}(c:bg S w w')(a:¬S b):dl w' b m:=dl.kept h (c.block b (dl.lt h) a)
theorem dl.ne{g:Nat}{c:Array Value}{t:TypeId}(d:Blk w g c t):b≠g:=by
 obtain⟨es,a,f,_⟩:=h;intro e;subst e;unfold Blk at d;rw[f] at d;cases d
end
def OfT(ty:List TypeId)(mp:Bool)(w:World)(k:Nat):Prop:=
 (∀c t f,w.heap[k]?=some (.cells c t f)->t∈ty)/\(∀es cl,w.heap[k]?=some (.map es cl)->mp=true)
def aa(S:Nat->Prop)(ty:List TypeId)(mp:Bool)(w w':World):Prop:=bg (fun k=>S k/\OfT ty mp w k) w w'
theorem OfT.same{ty:List TypeId}{mp:Bool}{w w':World}{k:Nat}(h:OfT ty mp w' k)(e:w'.heap[k]? = w.heap[k]?):OfT ty mp w k:=by
 unfold OfT at h ⊢;rw[e] at h;exact h
theorem OfT.blk{ty:List TypeId}{mp:Bool}{w:World}{k:Nat}{c:Array Value}{t:TypeId}(h:Blk w k c t)(a:t∈ty):OfT ty mp w k:=by
 unfold Blk at h;refine⟨fun i f d e=>?_,fun es g e=>?_⟩
 ·rw[h] at e;cases e;exact a
 ·rw[h] at e;cases e
section
variable {S S':Nat->Prop} {ty ty':List TypeId} {mp mp':Bool} {w w' w'':World}
theorem aa.refl:aa S ty mp w w:=bg.refl
theorem aa.of_below(h:zB w w'):aa S ty mp w w':=bg.of_below h
theorem aa.cU{g:Nat}{c:Array Value}{t:TypeId}(h:ah g w w')(a:Blk w g c t)(e:t∈ty)(d:S g):aa S ty mp w w':=bg.cU h (.inl ⟨d,OfT.blk a e⟩)
theorem aa.trans(h:aa S ty mp w w')(c:aa S' ty mp w' w'')(g:∀k,k<w.heap.size->S' k->S k):aa S ty mp w w'':=by
 refine⟨c.os.trans h.os,c.tape.trans h.tape,c.output.trans h.output,Nat.le_trans h.size c.size,fun k d e=>?_⟩;have f:=h.block k d e;refine(c.block k (Nat.lt_of_lt_of_le d h.size) ?_).trans f;rintro⟨a,b⟩;exact e ⟨g k d a,b.same f⟩
theorem aa.mono(h:aa S ty mp w w')(f:∀k,k<w.heap.size->S k->S' k)(l:∀t,t∈ty->t∈ty')(d:mp=true->mp'=true):aa S' ty' mp' w w':=
 bg.mono h (fun k g ⟨a,b,c⟩=>⟨f k g a,fun c' i n e=>l _ (b c' i n e),fun es j e=>d (c es j e)⟩)
theorem aa.turns(h:aa S ty mp w w'):bg S w w':=bg.mono h (fun _ _ a=>a.1)
theorem aa.blk(h:aa S ty mp w w'){b:Nat}{c:Array Value}{t:TypeId}(hb:Blk w b c t)(d:t∉ty):Blk w' b c t:=
 bg.blk h hb (fun ⟨_,a,_⟩=>d (a c t _ hb))
theorem aa.map(h:aa S ty false w w'){b:Nat}{m:List (Int×Value)}(hb:dl w b m):dl w' b m:=by
 refine dl.turns hb h (fun ⟨_,_,a⟩=>?_);obtain⟨es,c,d,_⟩:=hb;exact absurd (a es c d) (by decide)
end
section
variable {α β:Type}
theorem Pv(f:Int->α->β)(m:List (Int×α))(k:Int):lk (m.map fun p=>(p.1,f p.1 p.2)) k=(lk m k).map (f k):=by
 induction m with
 | nil=>rfl
 | cons y r a=>
  unfold lk at a ⊢;by_cases h:y.1=k
  ·simp[List.find?_cons,h]
  ·simp only[List.map_cons,List.find?_cons,h,decide_false];exact a
theorem Il(f:Int->α->β)(m:List (Int×α))(k:Int):del (m.map fun p=>(p.1,f p.1 p.2)) k=(del m k).map fun p=>(p.1,f p.1 p.2):=by
 unfold del;rw[List.filter_map];rfl
theorem KP(f:Int->α->β)(x:Int×α):∀m:List (Int×α),Ic (x.1,f x.1 x.2) (m.map fun p=>(p.1,f p.1 p.2))=(Ic x m).map fun p=>(p.1,f p.1 p.2)
 | []=>rfl
 | y :: r=>by
  simp only[List.map_cons,Ic]
  by_cases h:x.1<y.1
  ·simp[h]
  ·simp[h,KP f x r]
theorem Mq(f:Int->α->β)(m:List (Int×α))(k:Int)(v : α):ins (m.map fun p=>(p.1,f p.1 p.2)) k (f k v)=(ins m k v).map fun p=>(p.1,f p.1 p.2):=by
 unfold ins;rw[Il];exact KP f (k,v) _
theorem mem_insS{x q:Int×α}:∀{m:List (Int×α)},q∈Ic x m↔q=x∨q∈m
 | []=>by simp[Ic]
 | y :: r=>by
  unfold Ic
  split
  ·simp
  ·simp only[List.mem_cons,mem_insS (m:=r)]
   constructor
   ·rintro(h|h|h)<;>simp[h]
   ·rintro(h|h|h)<;>simp[h]
theorem Ar{q:Int×α}{m:List (Int×α)}{k:Int}:q∈del m k↔q∈m/\q.1≠k:=by simp [del]
theorem mem_ins{q:Int×α}{m:List (Int×α)}{k:Int}{v : α}:q∈ins m k v↔q=(k,v)∨(q∈m/\q.1≠k):=by
 unfold ins;rw[mem_insS,Ar]
theorem pb{m:List (Int×α)}{k:Int}{v : α}(h:lk m k=some v):(k,v)∈m:=by
 unfold lk at h;rw[Option.map_eq_some_iff] at h;obtain⟨p,a,rfl⟩:=h;have d:=List.mem_of_find?_eq_some a;have c:=List.find?_some a;simp at c;subst c;exact d
end
theorem IN:Keyed prog 3:=int_keyed underlying3
theorem F5{k:Int}(h : -9223372036854775808<=k/\k<=9223372036854775807):keyOf prog 3 (.int .i64 k)=some (.int .i64 k):=keyOf_int_mk underlying3 (WalkArith.wf_i64 h)
theorem KT{v:Value}{d:DataW Value}{b:List MemPlace}(h:KU v=some (d,b)):d=.held v:=by
 unfold KU at h;injection h with h;injection h with h1 h2;exact h1.symm
section
variable {w:World} {ops:Array Oper} {rest:List Oper} {o:Oper} {a:Act} {Q:Exit->Act->World->Prop}
theorem cX(g:o.guard=none)(m x:Operand)(t e:TypeId)(c:o.op=Op.lookup t m x true)(p:prog.underlying t=some (.map 3 e))(z:Value)(f:∀w,(zeroValue e).run prog w=.ok z w)(b:Nat)(M:List (Int×Value))(n:a.eval m=.map (some b))(j:dl w b M)(k:Int)(l:a.eval x=.int .i64 k)(s : -9223372036854775808<=k/\k<=9223372036854775807)(r:Option Value)(q:lk M k=r)(h:wpList prog ops Q rest (a.put o.dst (.tuple #[r.getD z,.bool r.isSome])) w):wpList prog ops Q (o :: rest) a w:=by
 refine wpList_lookup_own_ok w g m x t c 3 e IN p KU (f w) (.held z) [] rfl b M.length (mapD M) n j _ _ l (F5 s) ?_;intro v u i;have d:=KT i;rw[Mp,DataW.held.injEq] at d;rw[Pr,<-d,q];exact h
theorem JE(i:o.guard=none)(m x:Operand)(t e:TypeId)(f:o.op=Op.lookup t m x false)(q:prog.underlying t=some (.map 3 e))(z:Value)(h:∀w,(zeroValue e).run prog w=.ok z w)(b:Nat)(M:List (Int×Value))(s:a.eval m=.map (some b))(n:dl w b M)(k:Int)(p:a.eval x=.int .i64 k)(y : -9223372036854775808<=k/\k<=9223372036854775807)(r:Option Value)(u:lk M k=r)(j:wpList prog ops Q rest (a.put o.dst (r.getD z)) w):wpList prog ops Q (o :: rest) a w:=by
 refine wpList_plain i fun B d=>?_;obtain⟨v,A,c,l⟩:=World.ownsMap.lookup n IN q (h w) (zd:=.held z) (zp:=[]) rfl (F5 y);have g:=KT l;rw[Mp,DataW.held.injEq,u] at g;subst g;unfold Oper.wp;simp[execOp,f,s,p,c,Result.andThen];exact d _ _ j
end
theorem dl.Hi{w:World}{b:Nat}{M:List (Int×Value)}(h:dl w b M)(t e:TypeId)(p:prog.underlying t=some (.map 3 e))(l:M.length<maxLen)(k:Int)(i : -9223372036854775808<=k/\k<=9223372036854775807)(val:Value):∃c,(Instr.mapUpdate t (.map (some b)) (.int .i64 k) val).run prog w.drew=.ok () c/\dl c b (ins M k val)/\ah b w c:=by
 have n:dl w.drew b M:=h;obtain⟨c,m,j,f⟩:=World.ownsMap.store n IN p l (F5 i) (val:=val) (d:=.held val) (ps:=[]) rfl;rw[Pq] at j;have g:=f.grown;exact⟨c,m,dl.JR j,⟨g.os,g.tape,g.output,g.size,fun k i q=>g.block k i (fun e=>q (by injection e))⟩⟩
theorem pe{s:Int}(a:0<=s)(b:s<=65535):ij s=true:=by simp [ij,a,b]
theorem Bf(s:Int):ij s=true↔0<=s/\s<=65535:=by simp [ij]
theorem gi(s:Int)(k:Bool)(h:ij s=k)(w:World):Calls prog 115 #[s] w fun e w'=>e=.returned (.bool k)/\w'=w:=by
 subst h;have E:ij s=(decide (0<=s)&&decide (s<=65535)):=rfl;by_cases b:0<=s
 ·have a:Hid (ij s=decide (s<=65535)):=by show _=_;rw[E];simp[b]
  clear E;go_enter func115,ntmps115;go_wp2
  go_ret;exact⟨by rw[a.out]<;>rfl,rfl⟩
 ·have a:Hid (ij s=false):=by show _=_;rw[E];simp[b]
  clear E;go_enter func115,ntmps115;go_wp2
  go_ret;exact⟨by rw[a.out]<;>rfl,rfl⟩
theorem MY(s:Int)(f:0<=s)(c:s<=65535)(w:World):Calls prog 147 #[s] w fun e b=>e=.returned (.int .i64 (sc s))/\b=w:=by
 have a:=Lh (pe f c);have h:bits .and .i64 (s+1) 65535=(s+1)%65536:=by have:=Kd (s+1) 16 65535 (by decide) (by decide);simpa using this
 have d:Hid (sc s=(s+1)%65536):=by show _=_;unfold sc;rw[a.out,if_pos rfl]
 have wr:IntKind.i64.wrap (s+1)=s+1:=by rw[IntKind.wrap_i64];omega
 go_enter func147,ntmps147;go_wp2_with fail;refine(gi _ _ a.out _).mono ?_;rintro e i ⟨rfl,rfl⟩;go_wp2_with fail;go_ret;exact⟨by rw[d.out]<;>rfl,rfl⟩
theorem IA{a b:Int}(d:ij a=true)(c:ij b=true):serDiff a b=if 32768<(b-a)%65536 then (b-a)%65536-65536 else (b-a)%65536:=by unfold serDiff;rw [d,c];rfl
theorem MZ(a b:Int)(n:0<=a)(m:a<=65535)(i:0<=b)(j:b<=65535)(w:World):zR 303 #[a,b] w (.int .i64 (serDiff a b)):=by
 have c:=Lh (pe n m);have h:=Lh (pe i j);have p:bits .and .i64 (b-a) 65535=(b-a)%65536:=by have:=Kd (b-a) 16 65535 (by decide) (by decide);simpa using this
 have ED:=Lh (IA c.out h.out);have wr:IntKind.i64.wrap (b-a)=b-a:=by rw[IntKind.wrap_i64];omega
 obtain⟨D,l⟩:∃D,(b-a)%65536=D:=⟨_,rfl⟩;have o:0<=D/\D<65536:=by omega
 obtain⟨q,r⟩:=o;rw[l] at p ED;clear l n m i j;by_cases k:32768<D
 ·have f:Hid (serDiff a b=D-65536):=by show _=_;rw[ED.out,if_pos k]
  clear ED;go_enter func303,ntmps303;go_wp2_with fail;refine(gi _ _ c.out _).mono ?_;rintro e d ⟨rfl,rfl⟩;go_wp2_with fail;refine(gi _ _ h.out _).mono ?_;rintro e d ⟨rfl,rfl⟩;go_wp2_with fail;go_ret;exact⟨by rw[f.out]<;>rfl,ad⟩
 ·have f:Hid (serDiff a b=D):=by show _=_;rw[ED.out,if_neg k]
  clear ED;go_enter func303,ntmps303;go_wp2_with fail;refine(gi _ _ c.out _).mono ?_;rintro e d ⟨rfl,rfl⟩;go_wp2_with fail;refine(gi _ _ h.out _).mono ?_;rintro e d ⟨rfl,rfl⟩;go_wp2_with fail;go_ret;exact⟨by rw[f.out]<;>rfl,ad⟩
theorem C3(a b:Int):-32768<=serDiff a b/\serDiff a b<=32768:=by unfold serDiff;split<;>(try split)<;>omega
theorem Jn(a b:Int)(q:0<=a)(p:a<=65535)(m:0<=b)(n:b<=65535)(k:Bool)(r:sh a b=k)(w:World):zR 301 #[a,b] w (.bool k):=by
 subst r;have ED:sh a b=(decide (0<serDiff a b)&&decide (serDiff a b<32768)):=rfl;have i:=Lh (MZ a b q p m n);obtain⟨D,d⟩:∃D,serDiff a b=D:=⟨_,rfl⟩;have l:=C3 a b;rw[d] at ED l;have c:Hid (∀w,zR 303 #[a,b] w (.int .i64 D)):=by show ∀w,_;rw[<-d];exact i.out
 obtain⟨s,t⟩:=l;clear i d;by_cases j:0<D
 ·have h:Hid (sh a b=decide (D<32768)):=by show _=_;rw[ED];simp[j]
  clear ED;go_enter func301,ntmps301;go_wp2_with fail;refine(c.out _).mono ?_;rintro e o ⟨rfl,f⟩;go_wp2_with fail;go_ret;exact⟨by rw[h.out]<;>rfl,ad⟩
 ·have h:Hid (sh a b=false):=by show _=_;rw[ED];simp[j]
  clear ED;go_enter func301,ntmps301;go_wp2_with fail;refine(c.out _).mono ?_;rintro e o ⟨rfl,f⟩;go_wp2_with fail;go_ret;exact⟨by rw[h.out]<;>rfl,ad⟩
abbrev Ig(b:Am):Array Value:=#[.int .i64 b.n,.int .i64 b.left]
theorem Qr(n:Int)(w:World):Calls prog 119 #[n] w fun e w'=>∃g,e=.returned (.pointer (some ⟨g,0,none⟩))/\w.heap.size<=g/\Blk w' g (Ig (.new n)) 239/\zB w w':=by
 go_enter func119,ntmps119;go_wp2_with fail;go_ret;exact⟨_,rfl,(by first|omega|(simp;done)|(simp;omega)|fail),Blk.new _ _ _,ad⟩
section
variable (g:Nat) (w:World)
theorem Jz(b:Am)(B:Blk w g (Ig b) 239):Calls prog 135 #[.pointer (some ⟨g,0,none⟩)] w fun e w'=>e=.returned (.tuple #[])/\ah g w w'/\Blk w' g (Ig ⟨b.n,b.n⟩) 239:=by
 obtain⟨n,l⟩:=b;have a:=Lh B;obtain⟨c,f,d,-⟩:=cz B;clear B;go_enter func135,ntmps135;go_wp2_with fail;refine bodyPost_end (results_none rfl _ _ _) rfl ?_;exact⟨rfl,dY,a.out.ab 1 _⟩
theorem N8(b:Am)(B:Blk w g (Ig b) 239):Calls prog 247 #[.pointer (some ⟨g,0,none⟩)] w fun e a=>e=.returned (.int .i64 b.left)/\a=w:=by
 obtain⟨n,l⟩:=b;obtain⟨c,f,d,-⟩:=cz B;clear B;go_enter func247,ntmps247;go_wp2_with fail;go_ret;exact⟨rfl,rfl⟩
theorem JA(b:Am)(i:0<=b.left)(h:b.left<=1000)(B:Blk w g (Ig b) 239):Calls prog 185 #[.pointer (some ⟨g,0,none⟩)] w fun e f=>e=.returned (.bool b.take.2)/\ah g w f/\Blk f g (Ig b.take.1) 239:=by
 have d:=Lh (N8 g w b B);obtain⟨n,l⟩:=b;have j:=Lh B;obtain⟨p,o,q,-⟩:=cz B;clear B;replace i:0<=l:=i;replace h:l<=1000:=h;by_cases c:l=0
 ·have a:Hid (Am.take ⟨n,l⟩=(⟨n,l⟩,false)):=by show _=_;unfold Am.take;rw[if_pos c]
  go_enter func185,ntmps185;go_wp2_with fail;refine d.out.mono ?_;rintro e k ⟨rfl,rfl⟩;go_wp2_with fail;go_ret;rw[a.out];exact⟨rfl,dY,j.out⟩
 ·have a:Hid (Am.take ⟨n,l⟩=(⟨n,l-1⟩,true)):=by show _=_;unfold Am.take;rw[if_neg c]
  have m:(l==0)=false:=by simp[c]
  have wr:IntKind.i64.wrap (l-1)=l-1:=by rw[IntKind.wrap_i64];omega
  go_enter func185,ntmps185;go_wp2_with fail;refine d.out.mono ?_;rintro e k ⟨rfl,rfl⟩;go_wp2_with fail;go_ret;rw[a.out];exact⟨rfl,dY,j.out.ab 1 _⟩
end
abbrev JI(t:Cf):Array Value:=#[.int .i64 t.every,.int .i64 t.next]
theorem Ox(n:Int)(w:World):Calls prog 120 #[n] w fun e w'=>∃g,e=.returned (.pointer (some ⟨g,0,none⟩))/\w.heap.size<=g/\Blk w' g (JI (.new n)) 241/\zB w w':=by
 go_enter func120,ntmps120;go_wp2_with fail;go_ret;exact⟨_,rfl,(by first|omega|(simp;done)|(simp;omega)|fail),Blk.new _ _ _,ad⟩
theorem Oy(g:Nat)(w:World)(t:Cf)(a:Int)(k:0<=t.every)(j:t.every<=1000000)(m:0<=a)(B:Blk w g (JI t) 241):Calls prog 137 #[.pointer (some ⟨g,0,none⟩),a] w fun e i=>e=.returned (.bool (t.due a).2)/\ah g w i/\Blk i g (JI (t.due a).1) 241:=by
 obtain⟨n,l⟩:=t;have c:=Lh B;obtain⟨p,o,q,-⟩:=cz B;clear B;replace k:0<=n:=k;replace j:n<=1000000:=j;by_cases d:a<l
 ·have b:Hid (Cf.due ⟨n,l⟩ a=(⟨n,l⟩,false)):=by show _=_;unfold Cf.due;rw[if_pos (.inl d)]
  go_enter func137,ntmps137;go_wp2_with fail;go_ret;rw[b.out];exact⟨rfl,dY,c.out⟩
 ·by_cases f:1000000<a
  ·have b:Hid (Cf.due ⟨n,l⟩ a=(⟨n,l⟩,false)):=by show _=_;unfold Cf.due;rw[if_pos (.inr f)]
   go_enter func137,ntmps137;go_wp2_with fail;go_ret;rw[b.out];exact⟨rfl,dY,c.out⟩
  ·have b:Hid (Cf.due ⟨n,l⟩ a=(⟨n,a+n⟩,true)):=by show _=_;unfold Cf.due;rw[if_neg (fun h=>h.elim d f)]
   have wr:IntKind.i64.wrap (a+n)=a+n:=by rw[IntKind.wrap_i64];omega
   go_enter func137,ntmps137;go_wp2_with fail;go_ret;rw[b.out];exact⟨rfl,dY,c.out.ab 1 _⟩
theorem Qs(n a b:Int)(w:World):zR 190 #[n,a,b] w (.int .i64 (btw n a b)):=by
 go_enter func190,ntmps190;go_wp2_with fail;go_ret;exact⟨rfl,ad⟩
theorem Qt(n a b:Int)(h:a<=b):a<=btw n a b/\btw n a b<=b:=by unfold btw;omega
theorem RM(s t:Int)(w:World):zR 141 #[s,t] w (.int .i64 (localF s t)):=by
 have p:Hid (localF s t=btw (btw t 0 1000000+btw s (-1000000) 1000000) 0 1000000):=rfl;obtain⟨a,d⟩:∃z,btw t 0 1000000=z:=⟨_,rfl⟩;obtain⟨b,h⟩:∃z,btw s (-1000000) 1000000=z:=⟨_,rfl⟩;have l:=Qt t 0 1000000 (by decide);have k:=Qt s (-1000000) 1000000 (by decide);rw[d] at l;rw[h] at k;have wr:IntKind.i64.wrap (a+b)=a+b:=by rw[IntKind.wrap_i64];omega
 have i:=Lh d;have j:=Lh h;obtain⟨q,o⟩:=l;obtain⟨m,r⟩:=k;clear d h;go_enter func141,ntmps141;go_wp2_with fail;refine(Qs _ _ _ _).mono ?_;rintro e v ⟨rfl,c⟩;have u:=c.size;rw[i.out];go_wp2_with fail;refine(Qs _ _ _ _).mono ?_;rintro e y ⟨rfl,f⟩;have A:=f.size;rw[j.out];go_wp2_with fail;refine(Qs _ _ _ _).mono ?_;rintro e x ⟨rfl,n⟩;go_wp2_with fail;go_ret;exact⟨by rw[p.out,i.out,j.out]<;>rfl,ad⟩
abbrev entC(x:EntD):Array Value:=#[.int .i64 x.node,.int .i64 x.boot,.int .i64 x.heard,.bool x.has,.int .i64 x.e.x,.int .i64 x.e.y,.int .i64 x.e.a,.int .i64 x.e.b,.int .i64 x.e.d,.int .i64 x.when]
abbrev kx(x:EntD):Value:=.agg (entC x)
@[go_sem ↓] theorem Vv(P : Program)(w : World)(b o : Nat):(loadCellsFrom ⟨b, o, none⟩ 0 10 #[]).run P w=gT (w.row? b o 10) w (lcf P b o 10 w):=lcf_row? w b o 10
@[go_sem ↓] theorem Vk(P : Program)(w : World)(b o : Nat)(l d f i c j e h a k : Value):(storeCells ⟨b,o,none⟩ [l,d,f,i,c,j,e,h,a,k]).run P w=sj (w.put? b o #[l,d,f,i,c,j,e,h,a,k]) (scf P b o #[l,d,f,i,c,j,e,h,a,k] w):=scf_put? w b o _
@[go_sem] theorem UU(k c e b i d f a j : Int)(h : Bool):ones #[.int .i64 k, .int .i64 c, .int .i64 e, .bool h, .int .i64 b, .int .i64 i, .int .i64 d, .int .i64 f, .int .i64 a, .int .i64 j]=true:=by
  unfold ones;simp[Array.all_eq_true_iff_forall_mem,Value.oneCell']
@[go_sem] theorem Uu(s u m v r o p n l q a h i k j d e c f b : Value):splice #[s, u, m, v, r, o, p, n, l, q] 0 #[a, h, i, k, j, d, e, c, f, b]=#[a, h, i, k, j, d, e, c, f, b]:=dw _ _ rfl
theorem ql(w:World):(zeroValue 99).run prog w=.ok (kx .zero) w:=by kernel_rfl
abbrev Hd(w:Ca):Array Value:=#[.bool w.any,.int .i64 w.last,.int .u64 (w.seen:Int)]
abbrev tt(b:Nat)(l:Ja):Value:=.agg #[.int .i64 l.boot,.bool l.left,.pointer (some ⟨b,0,none⟩)]
theorem zc(w:World):(zeroValue 344).run prog w=.ok (.agg #[.int .i64 0,false,.pointer none]) w:=by kernel_rfl
structure Ah where
 me:Nat
 ml:Nat
 wb:Int->Nat
structure dR (S:Nat->Prop) (w:World) (g:Nat) (L:Ah) (t:cB):Prop where
 blk:Blk w g #[.int .i64 t.most,.map (some L.me),.map (some L.ml)] 128
 me:dl w L.me (t.ents.map fun p=>(p.1,kx p.2))
 ml:dl w L.ml (t.lives.map fun p=>(p.1,tt (L.wb p.1) p.2))
 ne:L.me≠L.ml
 sg:S g
 sm:S L.me
 sl:S L.ml
 win:∀p∈t.lives,Blk w (L.wb p.1) (Hd p.2.w) 375/\S (L.wb p.1)
 inj:∀p∈t.lives,∀q∈t.lives,L.wb p.1=L.wb q.1->p.1=q.1
structure dA (t:cB):Prop where
 most:1<=t.most/\t.most<=64
 ents:∀p∈t.ents,p.2.node=p.1/\0<=p.1/\p.1<64/\0<=p.2.boot/\p.2.boot<=65535/\0<=p.2.heard/\p.2.heard<=1000000/\(p.2.has=true->p.2.e.may=true)/\0<=p.2.when/\p.2.when<=1000000
 lives:∀p∈t.lives,0<=p.1/\p.1<64/\0<=p.2.boot/\p.2.boot<=65535/\0<=p.2.w.last/\p.2.w.last<=65535/\p.2.w.seen<18446744073709551616
 asc:t.ents.Pairwise (fun p q=>p.1<q.1)
 lasc:t.lives.Pairwise (fun p q=>p.1<q.1)
section
variable {S S':Nat->Prop} {w w':World} {g:Nat} {L:Ah} {t:cB}
theorem dR.kept(h:dR S w g L t)(c:∀k,k<w.heap.size->S k->w'.heap[k]? = w.heap[k]?)(b:∀k,k<w.heap.size->S k->S' k):dR S' w' g L t:=
 ⟨(c g h.blk.lt h.sg).trans h.blk,h.me.kept (c _ h.me.lt h.sm),h.ml.kept (c _ h.ml.lt h.sl),h.ne,b _ h.blk.lt h.sg,b _ h.me.lt h.sm,b _ h.ml.lt h.sl,
  fun p a=>⟨(c _ (h.win p a).1.lt (h.win p a).2).trans (h.win p a).1,b _ (h.win p a).1.lt (h.win p a).2⟩,h.inj⟩
theorem dR.below(h:dR S w g L t)(hb:zB w w'):dR S w' g L t:=h.kept (fun k b _=>hb.block k b) (fun _ _ a=>a)
theorem dR.nr{R:Nat->Prop}{ty:List TypeId}(h:dR S w g L t)(a:aa R ty false w w')(d:128∉ty)(c:375∉ty):dR S w' g L t:=
 ⟨a.blk h.blk d,a.map h.me,a.map h.ml,h.ne,h.sg,h.sm,h.sl,fun p b=>⟨a.blk (h.win p b).1 c,(h.win p b).2⟩,h.inj⟩
theorem dR.only{k:Nat}{c:Array Value}{ty:TypeId}(h:dR S w g L t)(a:ah k w w')(b:Blk w k c ty)(h1:128≠ty)(h2:375≠ty):dR S w' g L t:=
 h.nr (R:=fun _=>True) (ty:=[ty]) (aa.cU a b (by simp) trivial) (by simpa using h1) (by simpa using h2)
end
theorem Ht{K:Act->World->Prop}{Q:Exit->Act->World->Prop}{e:Exit}{a:Act}{W:World}(h:∀u,u=W->Exit.then K Q e a u):Exit.then K Q e a W:=h W rfl
section
variable {S:Nat->Prop} {w w':World} {g:Nat} {L:Ah} {t:cB}
theorem dR.EG(h:dR S w g L t)(a:ah L.me w w'){es:List (Int×EntD)}(c:dl w' L.me (es.map fun p=>(p.1,kx p.2))):dR S w' g L {t with ents:=es}:=
 ⟨a.blk h.blk (Ne.symm (h.me.ne h.blk)),c,h.ml.only a (Ne.symm h.ne),h.ne,h.sg,h.sm,h.sl,fun p b=>⟨a.blk (h.win p b).1 (Ne.symm (h.me.ne (h.win p b).1)),(h.win p b).2⟩,h.inj⟩
theorem PV(a:List (Int×EntD))(k:Int)(v:EntD):ins (a.map fun p=>(p.1,kx p.2)) k (kx v)=(ins a k v).map fun p=>(p.1,kx p.2):=Mq (fun _ x=>kx x) a k v
theorem I1(es:List (Int×EntD))(k:Int):del (es.map fun p=>(p.1,kx p.2)) k=(del es k).map fun p=>(p.1,kx p.2):=Il (fun _ x=>kx x) es k
theorem dR.store(h:dR S w g L t)(n:Int)(c : -9223372036854775808<=n/\n<=9223372036854775807)(e:t.ents.length<=64)(v:EntD):∃w',(Instr.mapUpdate 125 (.map (some L.me)) (.int .i64 n) (kx v)).run prog w.drew=.ok () w'/\ah L.me w w'/\dR S w' g L {t with ents:=ins t.ents n v}:=by
 obtain⟨w',d,a,b⟩:=h.me.Hi 125 99 underlying125 (by simp[maxLen];omega) n c (kx v);rw[PV] at a;exact⟨w',d,b,h.EG b a⟩
end
def Tn(w:World)(A:Option Addr)(l:List Int):Prop:=
 ∀i:Nat,i<l.length->∃b o,A=some ⟨b,o,none⟩/\b<w.heap.size/\w.cell? ⟨b,o+i,none⟩=some (.int .i64 (l.getD i 0))
def nxAt(after:Int)(l:List Int)(k:Nat):NxD:=(l.take k).foldl (nxStep after) ⟨0,false,0,false⟩
theorem Ng(a:Int)(l:List Int)(k:Nat)(h:k<l.length):nxAt a l (k+1)=nxStep a (nxAt a l k) (l.getD k 0):=by
 unfold nxAt;have e:l.take (k+1)=l.take k++[l.getD k 0]:=by rw[List.take_add_one,List.getElem?_eq_getElem h];simp[List.getD,h]
 rw[e,List.foldl_append];rfl
theorem Pi(A:Option Addr)(l:List Int)(r:Nat)(f:Int)(w:World)(L:l.length<=1000000)(h:Tn w A l):Calls prog 188 #[.slice A l.length r,f] w fun e G=>e=.returned (.tuple #[.int .i64 (nextF l f).1,.bool (nextF l f).2])/\G=w:=by
 have u:Hid (nextF l f=if (nxAt f l l.length).behind then ((nxAt f l l.length).next,true) else ((nxAt f l l.length).least,(nxAt f l l.length).any)):=by
  show _=_;unfold nextF nxAt;rw[List.take_length]
 have z:=Lh h;have C:(l.length:Int)<=9223372036854775807:=by omega
 clear h;go_enter func188,ntmps188;go_wp2_with fail;go_loop [6,7,8,9,14] (fun a b c d i=>∃k:Nat,k<=l.length/\i=.int .i64 k/\∃s:NxD,Hid (nxAt f l k=s)/\a=.int .i64 s.least/\b=.int .i64 s.next/\c=.bool s.any/\d=.bool s.behind) (fun _ _ _ _ i=>l.length-(intOf i).toNat)
 case atStart=>exact⟨0,by omega,rfl,⟨0,false,0,false⟩,rfl,rfl,rfl,rfl,rfl⟩
 case round=>
  obtain⟨k,J,rfl,⟨j,p,next,g⟩,v,rfl,rfl,rfl,rfl⟩:=hrel;simp only;by_cases m:k<l.length
  ·obtain⟨b,o,rfl,K,F⟩:=z.out k m;obtain⟨n,q⟩:∃n,l.getD k 0=n:=⟨_,rfl⟩;rw[q] at F;have E:nxAt f l (k+1)=nxStep f ⟨j,p,next,g⟩ n:=by rw[Ng _ _ _ m,v.out,q]
   have I:(k:Int)<(l.length:Int):=by omega
   have x:(0:Int)<=k:=by omega
   have t:=Lh m;clear q m;rcases p with _|_<;>rcases g with _|_<;>by_cases H:n<j<;>by_cases y:f<n<;>by_cases B:n<next
   all_goals (simp[nxStep,H,y,B] at E;replace E:=Lh E)
   all_goals go_wp2_with fail
   all_goals go_round
   all_goals (have m:=t.out)
   all_goals first
    | exact⟨k+1,by omega,by go_num,_,E,rfl,rfl,rfl,rfl⟩
    | (simp[intOf];omega)
  ·have D:¬(k:Int)<(l.length:Int):=by omega
   obtain rfl:k=l.length:=by omega
   rw[v.out] at u;cases g with
   | true=>
    go_wp2_with fail;go_ret2
    exact⟨by rw[u.out];rfl,rfl⟩
   | false=>
    go_wp2_with fail;go_ret2
    exact⟨by rw[u.out];rfl,rfl⟩
theorem J2(t:Int)(c:0<=t)(b:t<=1000000)(w:World):Calls prog 251 #[t] w fun e a=>e=.returned (.bool true)/\a=w:=by
 go_enter func251,ntmps251;go_wp2
 go_ret;exact⟨by simp[b],rfl⟩
theorem Si(a d b c:Int)(k:Int)(f:freshF a d b c=k)(l:0<=a/\a<=1000000)(i:0<=d/\d<=1000000)(j:0<=b/\b<=1000000)(m:0<=c/\c<=1000000)(w:World):Calls prog 194 #[a,d,b,c] w fun e g=>e=.returned (.int .i64 k)/\g=w:=by
 have E:freshF a d b c=if a+b<d∨d+2*c<a then 9 else 0:=by
  unfold freshF;rw[if_neg];simp[cA,l,i,j,m]
 rw[E] at f;clear E;obtain⟨⟨q,t⟩,⟨p,v⟩,⟨s,r⟩,⟨u,x⟩⟩:=And.intro l (And.intro i (And.intro j m));clear l i j m;have y:IntKind.i64.wrap (a+b)=a+b:=by rw[IntKind.wrap_i64];omega
 have A:IntKind.i64.wrap (2*c)=2*c:=by rw[IntKind.wrap_i64];omega
 have z:IntKind.i64.wrap (d+2*c)=d+2*c:=by rw[IntKind.wrap_i64];omega
 by_cases n:a+b<d
 ·rw[if_pos (.inl n)] at f;subst f;go_enter func194,ntmps194;go_wp2_with (first|(go_at_call 251;refine(J2 _ (by omega) (by omega) _).mono ?_;rintro e g ⟨rfl,rfl⟩))
  go_ret;exact⟨rfl,rfl⟩
 ·by_cases o:d+2*c<a
  ·rw[if_pos (.inr o)] at f;subst f;go_enter func194,ntmps194;go_wp2_with (first|(go_at_call 251;refine(J2 _ (by omega) (by omega) _).mono ?_;rintro e g ⟨rfl,rfl⟩))
   go_ret;exact⟨rfl,rfl⟩
  ·rw[if_neg (fun h=>h.elim n o)] at f;subst f;go_enter func194,ntmps194;go_wp2_with (first|(go_at_call 251;refine(J2 _ (by omega) (by omega) _).mono ?_;rintro e g ⟨rfl,rfl⟩))
   go_ret;exact⟨rfl,rfl⟩
abbrev flt(most:Int)(v:Bool)(x y a b d:Int):Array Value:=#[.int .i64 most,.bool v,.int .i64 x,.int .i64 y,.int .i64 a,.int .i64 b,.int .i64 d]
theorem U2(n:Int)(w:World):Calls prog 117 #[n] w fun e w'=>∃g,e=.returned (.pointer (some ⟨g,0,none⟩))/\w.heap.size<=g/\Blk w' g (flt (max 2 n) false 0 0 0 0 0) 119/\zB w w':=by
 go_enter func117,ntmps117;go_wp2_with fail;go_ret;exact⟨_,rfl,(by first|omega|(simp;done)|(simp;omega)|fail),Blk.new _ _ _,ad⟩
section
variable (g:Nat) (m:Int) (v:Bool) (x y a b d:Int) (w:World) (B:Blk w g (flt m v x y a b d) 119)
include B
theorem QM:zR 25 #[.pointer (some ⟨g,0,none⟩)] w (.bool v):=by
 obtain⟨c,h,f,e⟩:=(show g<w.heap.size/\(∀o,w.cell? ⟨g,o,none⟩=(flt m v x y a b d)[o]?)/\(∀o,w.frozen? ⟨g,o,none⟩=false)/\w.row? g 0 7=some (flt m v x y a b d) from⟨B.lt,B.at,B.frozen,B.row?_all _ rfl⟩);go_enter func25,ntmps25;go_wp2_with fail;go_ret;exact⟨rfl,ad⟩
theorem e_c:zR 26 #[.pointer (some ⟨g,0,none⟩)] w (elC x y a b d):=by
 obtain⟨c,h,f,e⟩:=(show g<w.heap.size/\(∀o,w.cell? ⟨g,o,none⟩=(flt m v x y a b d)[o]?)/\(∀o,w.frozen? ⟨g,o,none⟩=false)/\w.row? g 0 7=some (flt m v x y a b d) from⟨B.lt,B.at,B.frozen,B.row?_all _ rfl⟩);go_enter func26,ntmps26;go_wp2_with fail;exact ak 5 #[.int .i64 x,.int .i64 y,.int .i64 a,.int .i64 b,.int .i64 d] rfl rfl rfl underlying35 rfl (by kernel_rfl) rc5 ⟨rfl,ad⟩
theorem Ua:Calls prog 130 #[.pointer (some ⟨g,0,none⟩)] w fun e c=>e=.returned (.tuple #[])/\ah g w c/\Blk c g (flt m false 0 0 0 0 0) 119:=by
 obtain⟨f,j,i,h⟩:=(show g<w.heap.size/\(∀o,w.cell? ⟨g,o,none⟩=(flt m v x y a b d)[o]?)/\(∀o,w.frozen? ⟨g,o,none⟩=false)/\w.row? g 0 7=some (flt m v x y a b d) from⟨B.lt,B.at,B.frozen,B.row?_all _ rfl⟩);go_enter func130,ntmps130;go_wp2_with fail;refine bodyPost_end (results_none rfl _ _ _) rfl ?_;refine⟨rfl,dY,?_⟩;refine Blk.of_eq (((((((B.ab 1 _).ab 2 _).ab 3 _).ab 4 _).ab 5 _).ab 6 _)) ?_;rfl
end
def setS(m:Int)(v:Bool)(e f:El):(Bool×El)×Int:=if f.may=true then (if m<f.tr then ((v,e),2) else ((true,f),0)) else ((v,e),1)
theorem Ta(g:Nat)(m:Int)(v:Bool)(x y a b d i j n p l:Int)(w:World)(B:Blk w g (flt m v x y a b d) 119):Calls prog 122 #[.pointer (some ⟨g,0,none⟩),elC i j n p l] w fun e w'=>∃N A k,setS m v ⟨x,y,a,b,d⟩ ⟨i,j,n,p,l⟩=((N,A),k)/\e=.returned (.int .i64 k)/\ah g w w'/\Blk w' g (flt m N A.x A.y A.a A.b A.d) 119:=by
 obtain⟨V,M,W,U⟩:=(show g<w.heap.size/\(∀o,w.cell? ⟨g,o,none⟩=(flt m v x y a b d)[o]?)/\(∀o,w.frozen? ⟨g,o,none⟩=false)/\w.row? g 0 7=some (flt m v x y a b d) from⟨B.lt,B.at,B.frozen,B.row?_all _ rfl⟩);have L:=Lh B;cases hm:El.may ⟨i,j,n,p,l⟩ with
 | false=>
  have G:=Lh hm;have E:Hid (setS m v ⟨x,y,a,b,d⟩ ⟨i,j,n,p,l⟩=((v,⟨x,y,a,b,d⟩),1)):=by show _=_;unfold setS;rw[if_neg (by rw[hm];decide)]
  clear hm B;go_enter func122,ntmps122;go_wp2_with fail;refine(aN _ _ _ _ _ _ G.out _).mono ?_;rintro e f ⟨rfl,c⟩;have F:=(L.out.alloc _).keep c;go_wp2_with fail;go_ret;exact⟨_,_,_,E.out,rfl,dY,F⟩
 | true=>
  have G:=Lh hm;by_cases I:m<El.tr ⟨i,j,n,p,l⟩
  ·obtain⟨t,u⟩:∃t,El.tr ⟨i,j,n,p,l⟩=t:=⟨_,rfl⟩;have J:=Lh u;have E:Hid (setS m v ⟨x,y,a,b,d⟩ ⟨i,j,n,p,l⟩=((v,⟨x,y,a,b,d⟩),2)):=by show _=_;unfold setS;rw[if_pos hm,if_pos I]
   rw[u] at I;clear hm u B;go_enter func122,ntmps122;go_wp2_with fail;refine(aN _ _ _ _ _ _ G.out _).mono ?_;rintro e f ⟨rfl,c⟩;have r:=c.size;(try simp at r);have z:=bq c (w.heap.size);have s:=bq c (g);have F:=(L.out.alloc _).keep c;go_wp2_with fail;have S:=cell_regrown (show f.cell? ⟨w.heap.size,0,none⟩=some (.int .i64 i) from(by go_simp));have M:=cell_regrown (show f.cell? ⟨w.heap.size,1,none⟩=some (.int .i64 j) from(by go_simp));have P:=cell_regrown (show f.cell? ⟨w.heap.size,2,none⟩=some (.int .i64 n) from(by go_simp));have Q:=cell_regrown (show f.cell? ⟨w.heap.size,3,none⟩=some (.int .i64 p) from(by go_simp));have T:=cell_regrown (show f.cell? ⟨w.heap.size,4,none⟩=some (.int .i64 l) from(by go_simp));have O:=cell_regrown (show f.cell? ⟨g,0,none⟩=some (.int .i64 m) from(by go_simp));refine wp_region_quiet_below (by kernel_rfl) (by kernel_rfl) ?_;repeat (go_big_quiet_step (first|(go_at_call 13;exact Calls.regrown_of (gO _ _ _ _ _ _ J.out _))))
   refine wpQuiet_nil ?_;intro R q;have h:=ay q;have K:=F.keep h;clear q;go_wp2_with fail;go_ret;exact⟨_,_,_,E.out,rfl,dY,K⟩
  ·obtain⟨t,u⟩:∃t,El.tr ⟨i,j,n,p,l⟩=t:=⟨_,rfl⟩;have J:=Lh u;have E:Hid (setS m v ⟨x,y,a,b,d⟩ ⟨i,j,n,p,l⟩=((true,⟨i,j,n,p,l⟩),0)):=by show _=_;unfold setS;rw[if_pos hm,if_neg I]
   rw[u] at I;clear hm u B;go_enter func122,ntmps122;go_wp2_with fail;refine(aN _ _ _ _ _ _ G.out _).mono ?_;rintro e f ⟨rfl,c⟩;have r:=c.size;(try simp at r);have z:=bq c (w.heap.size);have s:=bq c (g);have F:=(L.out.alloc _).keep c;go_wp2_with fail;have S:=cell_regrown (show f.cell? ⟨w.heap.size,0,none⟩=some (.int .i64 i) from(by go_simp));have M:=cell_regrown (show f.cell? ⟨w.heap.size,1,none⟩=some (.int .i64 j) from(by go_simp));have P:=cell_regrown (show f.cell? ⟨w.heap.size,2,none⟩=some (.int .i64 n) from(by go_simp));have Q:=cell_regrown (show f.cell? ⟨w.heap.size,3,none⟩=some (.int .i64 p) from(by go_simp));have T:=cell_regrown (show f.cell? ⟨w.heap.size,4,none⟩=some (.int .i64 l) from(by go_simp));have O:=cell_regrown (show f.cell? ⟨g,0,none⟩=some (.int .i64 m) from(by go_simp));refine wp_region_quiet_below (by kernel_rfl) (by kernel_rfl) ?_;repeat (go_big_quiet_step (first|(go_at_call 13;exact Calls.regrown_of (gO _ _ _ _ _ _ J.out _))))
   refine wpQuiet_nil ?_;intro R q;have h:=ay q;have K:=F.keep h;have D:=h.size;(try simp at D);have C:=bq h (w.heap.size);have H:=bq h (g);clear q;go_wp2_with fail;go_region
   go_wp2_with fail;go_ret;refine⟨_,_,_,E.out,rfl,dY,?_⟩;apply Blk.of_eq
   ·repeat (first|with_reducible exact K|with_reducible apply Blk.drew|with_reducible apply blk_drewN|with_reducible apply Blk.ab)
   ·first|rfl|trace_state
theorem Bo(t:cB)(n:Int):lk (t.ents.map fun p=>(p.1,kx p.2)) n=(lk t.ents n).map kx:=Pv (fun _ x=>kx x) _ _
theorem PJ(r:Option EntD):(r.map kx).getD (kx .zero)=kx (r.getD .zero):=by cases r<;>rfl
theorem OL(r:Option EntD):(r.map kx).isSome=r.isSome:=by cases r<;>rfl
theorem OH(n:Int)(w:World):Calls prog 118 #[n] w fun e w'=>∃g L,e=.returned (.pointer (some ⟨g,0,none⟩))/\dR (fun k=>w.heap.size<=k) w' g L (.new n)/\zB w w':=by
 have b:=@run_makeMap prog;go_enter func118,ntmps118;go_wp2_with fail;go_ret;refine⟨_,⟨w.heap.size,w.heap.size+1,fun _=>0⟩,rfl,⟨?_,?_,?_,?_,?_,?_,?_,?_,?_⟩,ad⟩
 ·exact Blk.new' _ _ _ (by simp)
 ·exact((dl.new w).below ((Below.refl _ _).alloc (Nat.le_refl _) _)).below ((Below.refl _ _).alloc (Nat.le_refl _) _)
 ·have h:=(dl.new (w.alloc (.map #[] 0))).below ((Below.refl _ _).alloc (Nat.le_refl _) (Obj.cells #[.int .i64 (max 1 (min n 64)),.map (some w.heap.size),.map (some (w.heap.size+1))] 128));have e:(w.alloc (.map #[] 0)).heap.size=w.heap.size+1:=by simp
  rw[e] at h;exact h
 ·exact Nat.ne_of_lt (Nat.lt_succ_self _)
 ·show w.heap.size<=_;omega
 ·exact Nat.le_refl _
 ·exact Nat.le_succ _
 ·intro p a;cases a
 ·intro p a;cases a
theorem Mz{α:Type}{m:List (Int×α)}(h:∀p∈m,0<=p.1/\p.1<64)(k:m.Pairwise (fun p q=>p.1<q.1)):m.length<=64:=by
 have c:∀(l:List (Int×α)) (b:Int),b<=64->(∀p∈l,b<=p.1/\p.1<64)->l.Pairwise (fun p q=>p.1<q.1)->(l.length:Int)<=64-b:=by
  intro l;induction l with
  | nil=>intro b n _ _;simp;omega
  | cons x r e=>
   intro b n d a;obtain⟨j,f⟩:=List.pairwise_cons.1 a;have i:=d x (by simp);have:=e (x.1+1) (by omega) (fun p a=>⟨by have:=j p a;omega,(d p (by simp[a])).2⟩) f;simp only[List.length_cons];omega
 have:=c m 0 (by decide) h k;omega
section
variable {S:Nat->Prop} {w:World} {g:Nat} {L:Ah} {t:cB} (H:dR S w g L t)
include H
theorem Ch(n:Int)(d : -9223372036854775808<=n/\n<=9223372036854775807)(r:Option EntD)(f:lk t.ents n=r):zR 93 #[.pointer (some ⟨g,0,none⟩),n] w (.tuple #[kx (r.getD .zero),.bool r.isSome]):=by
 have u:Hid (lk (t.ents.map fun p=>(p.1,kx p.2)) n=r.map kx):=by show _=_;rw[Bo,f]
 have o:=Lh H;have y:=Lh d;obtain⟨D,C,E,-⟩:=cz H.blk;obtain⟨⟨i,m,s,B,⟨j,l,z,v,q⟩,k⟩,e⟩:∃x,r.getD .zero=x:=⟨_,rfl⟩;obtain⟨A,a⟩:∃b,r.isSome=b:=⟨_,rfl⟩;have h:=Lh e;have c:=Lh a;clear H d f e a;go_enter func93,ntmps93;go_wp2_with (first|(at_lookup;refine cX rfl _ _ 125 99 rfl underlying125 _ ql L.me _ rfl (o.out.me.below ad) n rfl y.out _ u.out ?_;rw[PJ,OL,h.out,c.out]))
 rw[h.out,c.out];exact az 10 #[.int .i64 i,.int .i64 m,.int .i64 s,.bool B,.int .i64 j,.int .i64 l,.int .i64 z,.int .i64 v,.int .i64 q,.int .i64 k] (.bool A) rfl rfl rfl rfl underlying99 rfl (by kernel_rfl) (by go_simp) ⟨rfl,ad⟩
omit H in
theorem Hg(k:Int)(h:cA k=true)(w:World):Calls prog 253 #[k] w fun e a=>e=.returned (.bool true)/\a=w:=by
 have c:0<=k/\k<=1000000:=by simpa [cA] using h
 obtain⟨d,b⟩:=c;go_enter func253,ntmps253;go_wp2
 go_ret;exact⟨by simp[b],rfl⟩
omit H in
theorem dA.len(h:dA t):t.ents.length<=64/\t.lives.length<=64:=⟨Mz (fun p a=>⟨(h.ents p a).2.1,(h.ents p a).2.2.1⟩) h.asc,Mz (fun p a=>⟨(h.lives p a).1,(h.lives p a).2.1⟩) h.lasc⟩
theorem MQ(n:Int)(e : -9223372036854775808<=n/\n<=9223372036854775807)(f:lk t.ents n=none)(x y a b d c:Int):zR 310 #[.pointer (some ⟨g,0,none⟩),n,elC x y a b d,c] w (.int .i64 7):=by
 have h:Hid (lk (t.ents.map fun p=>(p.1,kx p.2)) n=none):=by show _=_;rw[Bo,f];rfl
 have i:=Lh H;have j:=Lh e;obtain⟨k,m,l,-⟩:=cz H.blk;clear H e f;go_enter func310,ntmps310;go_wp2_with (first|(at_lookup;refine cX rfl _ _ 125 99 rfl underlying125 _ ql L.me _ rfl (i.out.me.below ad) n rfl j.out _ h.out ?_))
 go_ret;exact⟨rfl,ad⟩
theorem OG(G:dA t)(n:Int)(E : -9223372036854775808<=n/\n<=9223372036854775807)(v:EntD)(A:lk t.ents n=some v)(x y a b d when:Int)(z:El.may ⟨x,y,a,b,d⟩=true)(l:cA when=true):Calls prog 310 #[.pointer (some ⟨g,0,none⟩),n,elC x y a b d,when] w fun e J=>e=.returned (.int .i64 0)/\ah L.me w J/\dR S J g L (t.put n ⟨x,y,a,b,d⟩ when).1:=by
 have W:Hid (lk (t.ents.map fun p=>(p.1,kx p.2)) n=some (kx v)):=by show _=_;rw[Bo,A];rfl
 have EV:Hid ((t.put n ⟨x,y,a,b,d⟩ when).1={t with ents:=ins t.ents n {v with has:=true,e:=⟨x,y,a,b,d⟩,when:=when}}):=by
  show _=_;unfold cB.put;rw[A];simp only;rw[if_neg (by simp[z,l])]
 have o:=Lh H;have I:=Lh E;have HW:=Lh l;have V:=Lh z;have HK:=Lh G.len.1;obtain⟨h,f,i,-⟩:=cz H.blk;obtain⟨j,m,s,x3,⟨M,P,e2,e3,U⟩,N⟩:=v;clear H E A l z G;go_enter func310,ntmps310
 go_wp2_with (first
  | (at_lookup;refine cX rfl _ _ 125 99 rfl underlying125 _ ql L.me _ rfl (o.out.me.below ad) n rfl I.out _ W.out ?_)
  | (go_at_call 34;refine(I2 _ _ _ _ _ _ V.out _).mono ?_;rintro e q ⟨rfl,c⟩)
  | (go_at_call 253;refine(Hg _ HW.out _).mono ?_;rintro e w2 ⟨rfl,O⟩;have R:=O.symm;subst R))
 have X:Hid (Blk q w.heap.size #[x,y,a,b,d] 35):=((Blk.new w _ _).alloc _).keep c;have K:Hid (Blk q (w.heap.size+1) (entC ⟨j,m,s,x3,⟨M,P,e2,e3,U⟩,N⟩) 99):=(Blk.new' (w.alloc (Obj.cells #[x,y,a,b,d] 35)) _ _ (by simp)).keep c;have T:=c.size;simp at T;have HB:Hid (zB w q):=(show Below _ _ _ from ad);clear h f i c;obtain⟨h,f,i,-⟩:=cz (o.out.below HB.out).blk;obtain⟨y2,Z,f2,-⟩:=cz X.out;obtain⟨y3,c3,Y,-⟩:=cz K.out;go_region
 refine Ht ?_;intro u B;have Q:Hid (Blk u (w.heap.size+1) (entC ⟨j,m,s,true,⟨x,y,a,b,d⟩,when⟩) 99):=by rw[B];have XX:=K.out;exact(by apply Blk.of_eq;(focus (repeat (first|with_reducible exact XX|with_reducible apply Blk.drew|with_reducible apply blk_drewN|with_reducible apply Blk.alloc|with_reducible apply Blk.ab)));first|rfl|(simp;done))
 have F:Hid (zB w u):=by rw[B];exact(show Below _ _ _ from ad)
 have r:=o.out.below F.out;obtain⟨w9,D,C,k⟩:=r.store n I.out HK.out ⟨j,m,s,true,⟨x,y,a,b,d⟩,when⟩;rw[<-EV.out] at k;have RO:=Lh ((ah.of_below F.out).trans C);have RT:=Lh k;clear B C k h f i y2 Z f2 y3 c3 Y;obtain⟨h,f,i,-⟩:=cz r.blk;have r3:=Q.out.row?_all 10 rfl;clear r;go_wp2_with fail;go_region
 go_wp2_with fail;go_ret;exact⟨rfl,RO.out,RT.out⟩
end
def Jt:Go.Shelf.Ren:=⟨fun|7=>58|10=>125|n=>n,fun|23=>125|26=>3|3=>99|28=>123|0=>0|27=>122|33=>67|4=>4|n=>n,fun|n=>n⟩
theorem Tj:Go.Proofs.SlLaysZI.n7 prog Jt:={mixed:=by kernel_rfl,f7:=⟨Tryz.f58.name,by decide,func58.trans (congrArg some (by kernel_rfl))⟩,f10:=⟨Tryz.f125.name,by decide,func125.trans (congrArg some (by kernel_rfl))⟩,t0:=underlying0,a0:=isAgg0,z0:=sizeOf0,v0:=zeroValue0,t4:=underlying4,a4:=isAgg4,z4:=sizeOf4,v4:=zeroValue4,t23:=underlying125,a23:=isAgg125,z23:=sizeOf125,v23:=zeroValue125,t26:=underlying3,a26:=isAgg3,z26:=sizeOf3,v26:=zeroValue3,t27:=underlying122,a27:=isAgg122,z27:=sizeOf122,v27:=zeroValue122,t28:=underlying123,a28:=isAgg123,z28:=sizeOf123,v28:=zeroValue123,t33:=underlying67,a33:=isAgg67,z33:=sizeOf67,v33:=zeroValue67}
def Hx:Go.Shelf.Ren:=⟨fun|6=>57|8=>123|9=>124|11=>176|13=>178|12=>177|23=>239|24=>240|14=>230|15=>231|16=>232|17=>233|18=>234|19=>235|20=>236|21=>237|22=>238|25=>293|26=>294|27=>295|28=>296|29=>297|30=>298|31=>332|n=>n,fun|26=>3|28=>123|24=>120|0=>0|3=>3|37=>233|48=>256|50=>53|4=>4|40=>326|39=>325|45=>260|5=>5|9=>9|51=>365|55=>369|57=>406|58=>407|33=>67|n=>n,fun|n=>n⟩
theorem Q9:Go.Proofs.SlLaysZI.n6 prog Hx:={mixed:=by kernel_rfl,f6:=⟨Tryz.f57.name,by decide,func57.trans (congrArg some (by kernel_rfl))⟩,f8:=⟨Tryz.f123.name,by decide,func123.trans (congrArg some (by kernel_rfl))⟩,f11:=⟨Tryz.f176.name,by decide,func176.trans (congrArg some (by kernel_rfl))⟩,t0:=underlying0,a0:=isAgg0,z0:=sizeOf0,v0:=zeroValue0,t24:=underlying120,a24:=isAgg120,z24:=sizeOf120,v24:=zeroValue120,t26:=underlying3,a26:=isAgg3,z26:=sizeOf3,v26:=zeroValue3,t28:=underlying123,a28:=isAgg123,z28:=sizeOf123,v28:=zeroValue123,i26:=by kernel_rfl}
def MV:Go.Shelf.Ren:=⟨fun|5=>124|8=>178|7=>177|19=>239|20=>240|10=>230|11=>231|12=>232|13=>233|14=>234|15=>235|16=>236|17=>237|18=>238|30=>293|31=>294|32=>295|33=>296|34=>297|35=>298|40=>332|n=>n,fun|23=>120|25=>3|3=>3|32=>233|22=>120|0=>0|44=>256|46=>53|4=>4|36=>326|35=>325|41=>260|5=>5|9=>9|53=>365|57=>369|63=>406|64=>407|n=>n,fun|n=>n⟩
theorem S7:Go.Proofs.SlLaysM.n5 prog MV:={mixed:=by kernel_rfl,f5:=⟨Tryz.f124.name,by decide,func124.trans (congrArg some (by kernel_rfl))⟩,f7:=⟨Tryz.f177.name,by decide,func177.trans (congrArg some (by kernel_rfl))⟩,f8:=func178.trans (congrArg some (by kernel_rfl)),f10:=⟨Tryz.f230.name,by decide,func230.trans (congrArg some (by kernel_rfl))⟩,f11:=⟨Tryz.f231.name,by decide,func231.trans (congrArg some (by kernel_rfl))⟩,f12:=⟨Tryz.f232.name,by decide,func232.trans (congrArg some (by kernel_rfl))⟩,f13:=⟨Tryz.f233.name,by decide,func233.trans (congrArg some (by kernel_rfl))⟩,f14:=⟨Tryz.f234.name,by decide,func234.trans (congrArg some (by kernel_rfl))⟩,f15:=⟨Tryz.f235.name,by decide,func235.trans (congrArg some (by kernel_rfl))⟩,f16:=⟨Tryz.f236.name,by decide,func236.trans (congrArg some (by kernel_rfl))⟩,f17:=⟨Tryz.f237.name,by decide,func237.trans (congrArg some (by kernel_rfl))⟩,f18:=⟨Tryz.f238.name,by decide,func238.trans (congrArg some (by kernel_rfl))⟩,f19:=func239.trans (congrArg some (by kernel_rfl)),f20:=func240.trans (congrArg some (by kernel_rfl)),f30:=⟨Tryz.f293.name,by decide,func293.trans (congrArg some (by kernel_rfl))⟩,f31:=func294.trans (congrArg some (by kernel_rfl)),f32:=func295.trans (congrArg some (by kernel_rfl)),f33:=⟨Tryz.f296.name,by decide,func296.trans (congrArg some (by kernel_rfl))⟩,f34:=⟨Tryz.f297.name,by decide,func297.trans (congrArg some (by kernel_rfl))⟩,f35:=⟨Tryz.f298.name,by decide,func298.trans (congrArg some (by kernel_rfl))⟩,f40:=⟨Tryz.f332.name,by decide,func332.trans (congrArg some (by kernel_rfl))⟩,t0:=underlying0,a0:=isAgg0,z0:=sizeOf0,v0:=zeroValue0,t3:=underlying3,a3:=isAgg3,z3:=sizeOf3,v3:=zeroValue3,t4:=underlying4,a4:=isAgg4,z4:=sizeOf4,v4:=zeroValue4,t5:=underlying5,a5:=isAgg5,z5:=sizeOf5,v5:=zeroValue5,t9:=underlying9,a9:=isAgg9,z9:=sizeOf9,v9:=zeroValue9,t22:=underlying120,a22:=isAgg120,z22:=sizeOf120,v22:=zeroValue120,t23:=underlying120,a23:=isAgg120,z23:=sizeOf120,v23:=zeroValue120,t25:=underlying3,a25:=isAgg3,z25:=sizeOf3,v25:=zeroValue3,t32:=underlying233,a32:=isAgg233,z32:=sizeOf233,v32:=zeroValue233,t35:=underlying325,a35:=isAgg325,z35:=sizeOf325,v35:=zeroValue325,t36:=underlying326,a36:=isAgg326,z36:=sizeOf326,v36:=zeroValue326,t41:=underlying260,a41:=isAgg260,z41:=sizeOf260,v41:=zeroValue260,t44:=underlying256,a44:=isAgg256,z44:=sizeOf256,v44:=zeroValue256,t46:=underlying53,a46:=isAgg53,z46:=sizeOf53,v46:=zeroValue53,t53:=underlying365,a53:=isAgg365,z53:=sizeOf365,v53:=zeroValue365,t57:=underlying369,a57:=isAgg369,z57:=sizeOf369,v57:=zeroValue369,t63:=underlying406,a63:=isAgg406,z63:=sizeOf406,v63:=zeroValue406,t64:=underlying407,a64:=isAgg407,z64:=sizeOf407,v64:=zeroValue407}
theorem TE(m:Nat):AnyZI.SortsIn prog Hx Fence.wide m:=
 ⟨fun blk d a f W e b c=>callsIn_wide.2 (AnyM.slices_Sort_int S7 blk d a f W e b c),
  fun p a W=>callsIn_wide.2 (AnyM.slices_Sort_int_none S7 p a W)⟩
theorem Uc(a:Option Nat)(w:World):Calls prog 58 #[.map a] w fun e w'=>e=.returned (.func (.func 125) #[] #[.pointer (some ⟨w.heap.size,0,none⟩)])/\w'=w.alloc (.cells #[.map a] 125):=
 callsIn_wide.1 (AnyZI.keys_in Tj Fence.wide 5 trivial rfl a w)
theorem Lv(b:Nat)(M:List (Int×Value))(w:World)(h:dl w b M)(o:M.length<=64):Calls prog 57 #[.func (.func 125) #[] #[.pointer (some ⟨w.heap.size,0,none⟩)]] (w.alloc (.cells #[.map (some b)] 125)) fun e i=>∃(v:Value) (c:List Int),e=.returned v/\c.Perm (intKeys (mapD M))/\
   i.ownsRow (w.alloc (.cells #[.map (some b)] 125)).heap.size 3 1 v c.length ((c.mergeSort (fun x y=>decide (x<=y))).map encZ)/\(v=.slice none 0 0↔c=[])/\Below (w.alloc (.cells #[.map (some b)] 125)).heap.size (w.alloc (.cells #[.map (some b)] 125)) i:=by
 have g:=h.lt;have d:Maps.size (mapD M)=M.length:=by simp[mapD,Maps.size]
 have f:SeqGives Fence.wide 2 prog 125 #[.pointer (some ⟨w.heap.size,0,none⟩)] encZ (fun c=>c.Perm (intKeys (mapD M))) (Maps.size (mapD M)) (w.alloc (.cells #[.map (some b)] 125)):=
  AnyZI.keys_gives (ρ:=Jt) {Tj with} Fence.wide _ trivial rfl (by omega) w.heap.size b M.length (mapD M) _ (by simp) (by simp) (by
   obtain⟨l,a,n,m,k,j⟩:=h;exact⟨l,a,(Below.heap_alloc _ _ b g).trans n,m,k,j⟩)
 exact callsIn_wide.1 (AnyZI.sorted_in Q9 Fence.wide 5 trivial trivial trivial trivial rfl (by omega) (TE _) (enters_of func124 (by kernel_rfl) rfl) 125 #[.pointer (some ⟨w.heap.size,0,none⟩)] trivial (enters_of func125 (by kernel_rfl) rfl) _ _ (by rw[d];simp[maxLen];omega) (by rw[d];omega) _ f)
theorem KL{α:Type}(f : α->Value)(m:List (Int×α))(k:m.Pairwise (fun p q=>p.1<q.1))(d:List Int)(g:d.Perm (intKeys (mapD (m.map fun p=>(p.1,f p.2))))):d.mergeSort (fun x y=>decide (x<=y))=m.map (·.1):=by
 have e:intKeys (mapD (m.map fun p=>(p.1,f p.2)))=m.map (·.1):=by
  unfold mapD intKeys;simp only[List.map_map];rfl
 rw[e] at g;refine List.Perm.eq_of_pairwise (le:=fun x y:Int=>x<=y) (fun a b _ _ j i=>Int.le_antisymm j i) ?_ ?_ ((List.mergeSort_perm _ _).trans g)
 ·have h:=List.pairwise_mergeSort (le:=fun x y:Int=>decide (x<=y)) (fun a b c j i=>by simp at *;omega) (fun a b=>by simp;omega) d;exact h.imp (fun h=>by simpa using h)
 ·rw[List.pairwise_map];exact k.imp (fun h=>Int.le_of_lt h)
theorem OI{S:Nat->Prop}{w:World}{g:Nat}{L:Ah}{t:cB}(H:dR S w g L t)(h:dA t):Calls prog 57 #[.func (.func 125) #[] #[.pointer (some ⟨w.heap.size,0,none⟩)]] (w.alloc (.cells #[.map (some L.me)] 125)) fun e w'=>∃v,e=.returned v/\
   w'.ownsRow w.heap.size 3 1 v t.ents.length (t.ents.map fun p=>.int .i64 p.1)/\zB w w':=by
 refine Calls.mono (Lv L.me _ w H.me (by rw[List.length_map];exact h.len.1)) ?_;rintro e w' ⟨v,f,rfl,i,a,-,o⟩;rw[KL kx _ h.asc f i] at a;have q:f.length=t.ents.length:=by rw[i.length_eq];simp[intKeys,mapD]
 rw[q,List.map_map] at a;refine⟨v,rfl,?_,((Below.refl _ w).alloc (Nat.le_refl _) _).trans (o.mono (by simp))⟩;have l:(w.alloc (.cells #[.map (some L.me)] 125)).heap.size=w.heap.size+1:=by simp
 rw[l] at a;rcases a with ⟨m,b⟩
 refine⟨m,?_⟩;rcases b with b|⟨n,c,d,j,r,k⟩
 ·exact .inl b
 ·exact .inr ⟨n,c,d,j,by omega,k⟩
theorem R7:(prog.info? 99).map (fun i=>(i.zero,i.size,i.bytes))=some (some (kx .zero),10,80):=by kernel_rfl
abbrev nW(x:EntD):List Value:=(entC x).toList
theorem zV{w:World}{B:Nat}{e:TypeId}{v:Value}{n:Nat}{f:List Value}(h:w.ownsRow B e 1 v n f){k:Nat}{x:Value}(c:f[k]?=some x):∃g a,v=.slice (some ⟨g,0,none⟩) n a/\g<w.heap.size/\B<=g/\w.cell? ⟨g,k,none⟩=some x:=by
 obtain⟨r,⟨-,rfl⟩|⟨g,a,d,rfl,m,i,o,p,q,l⟩⟩:=h
 ·have:=(List.getElem?_eq_some_iff.1 c).1;omega
 ·have b:Blk w g d e:=i;refine⟨g,a,rfl,b.lt,m,(b.at k).trans ?_⟩;have j:=(List.getElem?_eq_some_iff.1 c).1;rw[<-l,List.getElem?_take,if_pos (by omega)] at c;simpa using c
theorem cv{w w':World}{B e a n:Nat}{v:Value}{f:List Value}(h:w.ownsRow B e a v n f)(o:zB w w'):w'.ownsRow B e a v n f:=by
 obtain⟨i,j|⟨g,c,b,rfl,m,l,k⟩⟩:=h
 ·exact⟨i,.inl j⟩
 ·have d:Blk w g b e:=l;exact⟨i,.inr ⟨g,c,b,rfl,m,d.keep o,k⟩⟩
theorem Ho{w w':World}{B e a n:Nat}{v:Value}{k:List Value}{b:Option Nat}(h:w.ownsRow B e a v n k)(p:w.grownBy w' b)(f:∀g,v.ownBlock=some g->b≠some g):w'.ownsRow B e a v n k:=by
 obtain⟨l,m|⟨g,i,c,rfl,q,j,o⟩⟩:=h
 ·exact⟨l,.inl m⟩
 ·have d:Blk w g c e:=j;exact⟨l,.inr ⟨g,i,c,rfl,q,(p.block g d.lt (Ne.symm (f g rfl))).trans d,o⟩⟩
theorem te{w:World}{b:Nat}{c:Array Value}{t:TypeId}(h:Blk w b c t):∀j u,c.toList[j]?=some u->w.cell? ((⟨b,0,none⟩:Addr).add j)=some u:=by
 intro j u a;have:=h.at j
 have e:(⟨b,0,none⟩:Addr).add j=⟨b,j,none⟩:=by
  unfold Addr.add;split
  ·rename_i h;subst h;rfl
  ·simp
 rw[e,this];simpa using a
theorem Pw{α:Type}{m:List (Int×α)}(d:m.Pairwise (fun p q=>p.1<q.1)){k:Int}{v : α}(h:(k,v)∈m):lk m k=some v:=by
 unfold lk;induction m with
 | nil=>cases h
 | cons y r a=>
  obtain⟨c,b⟩:=List.pairwise_cons.1 d;rcases List.mem_cons.1 h with rfl|h
  ·simp
  ·have:=c _ h;rw[List.find?_cons_of_neg (by simp at this ⊢;omega)];exact a b h
theorem NO(x:EntD):∀u∈nW x,u.oneCell'=true:=by intro u a;simp [nW] at a;rcases a with rfl|rfl|rfl|rfl|rfl|rfl|rfl|rfl|rfl|rfl<;>rfl
theorem Hp{w:World}{B t e p i d n q:Nat}{v m:Value}{s k:List Value}(h:w.ownsRow B e i v n s)(u:w.ownsRow t p d m q k)(j:e≠p):∀g,v.ownBlock=some g->m.ownBlock≠some g:=by
 intro g f a;obtain⟨-,⟨rfl,-⟩|⟨b,r,x,rfl,-,y,-⟩⟩:=h
 ·cases f
 obtain⟨-,⟨rfl,-⟩|⟨z,o,l,rfl,-,c,-⟩⟩:=u
 ·cases a
 injection f with f;injection a with a
 simp only at f a;subst f;subst a;rw[y] at c;injection c with c;injection c with _ h2
 exact j h2
theorem kh{w:World}{B e a n:Nat}{v:Value}{d:List Value}(h:w.ownsRow B e a v n d):∃i b,v=.slice i n b:=by
 rcases h.2 with ⟨g,rfl⟩|⟨j,c,f,h,-⟩
 ·exact⟨_,_,g⟩
 ·exact⟨_,_,h⟩
theorem xE{B:Nat}{a w w':World}{b:Option Nat}(i:B<=a.heap.size)(h:Below B a w)(c:w.grownBy w' b)(d:∀g,b=some g->B<=g):Below B a w':=
 ⟨c.os.trans h.os,c.tape.trans h.tape,c.output.trans h.output,Nat.le_trans h.size c.size,fun k f=>by
  rw[c.block k (by have:=h.size;omega) (fun e=>by have:=d k e.symm;omega)];exact h.block k f⟩
theorem xA{w:World}{B e a n:Nat}{v:Value}{d:List Value}(h:w.ownsRow B e a v n d):∀g,v.ownBlock=some g->B<=g:=by
 intro g c;obtain⟨-,⟨rfl,-⟩|⟨b,i,f,rfl,j,-⟩⟩:=h
 ·cases c
 ·injection c with c;simp only at c;omega
theorem EE{S:Nat->Prop}{w:World}{g:Nat}{L:Ah}{t:cB}(H:dR S w g L t)(s:dA t):Calls prog 27 #[.pointer (some ⟨g,0,none⟩)] w fun e w'=>∃v,e=.returned v/\w'.ownsRow w.heap.size 99 10 v t.ents.length (t.all.flatMap nW)/\(t.ents=[]->v=.slice none 0 0)/\zB w w':=by
 obtain⟨i0,hi,D,A,z⟩:=info_parts R7;have V:=Lh s;have R:=Lh H;obtain⟨U,X,Z,-⟩:=cz H.blk;have HS:=Lh (OI H s);have hl:=s.len.1;clear H s;go_enter func27,ntmps27
 go_wp2_with (first
  | (go_at_call 58;refine(Uc _ _).mono ?_;rintro e w1 ⟨rfl,W⟩;subst W)
  | (go_at_call 57;refine HS.out.mono ?_;rintro e w2 ⟨vs,rfl,j,r⟩;obtain⟨ao,E,rfl⟩:=kh j))
 have HR:=Lh j;have HB:=Lh r;have a4:(t.ents.length:Int)<=9223372036854775807:=by omega
 clear j r U X Z;go_loopw [3,15] (fun a i wr=>∃k:Nat,k<=t.ents.length/\i=.int .i64 k/\Hid (k=0->a=.slice none 0 0)/\Hid (wr.ownsRow w.heap.size 99 10 a k ((t.all.take k).flatMap nW))/\Hid (wr.ownsRow w.heap.size 3 1 (.slice ao t.ents.length E) t.ents.length (t.ents.map fun p=>.int .i64 p.1))/\Hid (zB w wr)) (fun _ i _=>t.ents.length-(intOf i).toNat)
 case atStart=>exact⟨0,by omega,rfl,fun _=>rfl,⟨by simp,.inl ⟨rfl,rfl⟩⟩,HR.out,HB.out⟩
 case round=>
  obtain⟨k,hk,rfl,HZ,I,o,d⟩:=hrel;by_cases J:k<t.ents.length
  ·obtain⟨⟨b,v⟩,l⟩:∃p,t.ents[k]?=some p:=⟨_,List.getElem?_eq_getElem J⟩;obtain⟨gr,Y,hv,a5,a0,hc⟩:=zV o.out (k:=k) (x:=.int .i64 b) (by rw[List.getElem?_map,l];rfl);injection hv with hv1 _ hv3
   subst hv1;subst hv3;have f:=List.mem_of_getElem? l;have M:=V.out.ents _ f;have HL:Hid (lk (t.ents.map fun p=>(p.1,kx p.2)) b=some (kx v)):=by show _=_;rw[Bo,Pw V.out.asc f];rfl
   have y:Hid (-9223372036854775808<=b/\b<=9223372036854775807):=by
    have W:0<=b:=M.2.1;have h2:b<64:=M.2.2.1;show _/\_;omega
   have ht:t.all.take (k+1)=t.all.take k++[v]:=by rw[List.take_add_one];simp[cB.all,l]
   have HT:Hid ((t.all.take (k+1)).flatMap nW=(t.all.take k).flatMap nW++nW v):=by show _=_;rw[ht];simp
   obtain⟨U,X,Z,-⟩:=cz (R.out.below d.out).blk;have a2:(k:Int)<(t.ents.length:Int):=by omega
   have a3:(0:Int)<=k:=by omega
   have hz:=d.out.size;obtain⟨F,P,Q,O,⟨G,u,N,K,B⟩,C⟩:=v;clear l f M ht
   go_wp2_with (first
    | (at_lookup;refine JE rfl _ _ 125 99 rfl underlying125 _ ql L.me _ rfl (R.out.me.below (w':=wr) d.out) b rfl y.out _ HL.out ?_)
    | (at_builtin;refine wpList_append_own _ rfl _ _ 40 rfl w.heap.size 99 i0 (kx .zero) 10 80 underlying40 hi D A z rfl (by decide) _ k _ rfl (cv I.out ((Below.refl _ _).alloc (Nat.le_refl _) _)) ⟨wr.heap.size,0,none⟩ 1 1 (nW ⟨F,P,Q,O,⟨G,u,N,K,B⟩,C⟩) rfl rfl (te (Blk.new _ _ _)) (NO _) (by unfold maxLen;omega) (by omega) (by simp;omega) ?_;intro v' w5 m c _))
   have q:=cv I.out ((Below.refl wr.heap.size wr).alloc (Nat.le_refl _) (Obj.cells (entC ⟨F,P,Q,O,⟨G,u,N,K,B⟩,C⟩) 99));have n:=cv o.out ((Below.refl wr.heap.size wr).alloc (Nat.le_refl _) (Obj.cells (entC ⟨F,P,Q,O,⟨G,u,N,K,B⟩,C⟩) 99));have R1:=Ho n c (Hp n q (by decide));have R2:=xE (Nat.le_refl _) (d.out.alloc hz _) c (xA q);rw[<-HT.out] at m;exact⟨⟨k+1,by omega,by go_num,fun h=>by omega,m,R1,R2⟩,by simp[intOf];omega⟩
  ·have a1:¬(k:Int)<(t.ents.length:Int):=by omega
   obtain rfl:k=t.ents.length:=by omega
   go_wp2_with fail;go_ret;have e:t.all.take t.ents.length=t.all:=List.take_of_length_le (by simp[cB.all]);have T:=I.out;rw[e] at T;exact⟨_,rfl,T,fun h=>HZ.out (by rw[h];rfl),d.out⟩
end Go.Proofs.YtechbdnhalmobaaGreatDoor
