/- Walks. -/
import Derived.Test.YtechbdnhalmobaaGreatDoorBW
import Derived.BigRegion
import Derived.WalkMore
import Derived.ScopeJumps
import Derived.OwnWalk
open Go.Proofs.Tryz
set_option maxRecDepth 100000
set_option maxHeartbeats 16000000
namespace Go.Proofs.YtechbdnhalmobaaGreatDoor
set_option linter.unusedSimpArgs false
set_option linter.unusedVariables false
structure GS where
 asked:List Int
 w:Int
 n:Int
 ok:Bool
def aS(V:Int->Int×Bool)(x:Int)(s:GS):Bool:=(V x).2&&(!s.ok||decide ((V x).1<s.n)||((V x).1==s.n&&decide (x<s.w)))
def gask(V:Int->Int×Bool)(x:Int)(s:GS):GS:=
 bif aS V x s then ⟨s.asked++[x],x,(V x).1,true⟩ else ⟨s.asked++[x],s.w,s.n,s.ok⟩
def gm(v w:Int×Bool):Bool:=!w.2||(v.2&&decide (v.1<=w.1))
def gD:Nat->Int|0=>34|1=>21|2=>13|3=>8|4=>5|5=>3|_=>2
def gX:Nat->Int|0=>13|1=>8|2=>5|3=>3|4=>2|_=>1
def gY:Nat->Int|0=>21|1=>13|2=>8|3=>5|4=>3|5=>2|_=>1
def kA(V:Int->Int×Bool)(j:Nat)(a:Int)(s:GS):Int×GS:=(a,if j=5 then s else gask V (a+gX (j+1)) s)
def gp(V:Int->Int×Bool)(j:Nat)(a:Int)(s:GS):Int×GS:=(a+gX j,if j=5 then s else gask V (a+gX j+gY (j+1)) s)
def qY(V:Int->Int×Bool)(j:Nat)(r:Int×GS):Int×GS:=
 bif gm (V (r.1+gX j)) (V (r.1+gY j)) then kA V j r.1 r.2 else gp V j r.1 r.2
def giter(V:Int->Int×Bool):Nat->Int×GS
 | 0=>(0,gask V 21 (gask V 13 ⟨[],0,0,false⟩))
 | j+1=>qY V j (giter V j)
def gfin(V:Int->Int×Bool):GS:=(giter V 6).2
theorem gXY(j:Nat)(a:j<6):gX (j+1)+gY (j+1)=gD (j+1)/\gX j=gY (j+1)/\gY j=gD (j+1)/\gY j-gX j=gX (j+1)/\gD j-gX j=gD (j+1)/\1<=gX j/\gX j<gY j/\gY j<gD j/\3<=gD j:=by
 match j,a with
 | 0,_|1,_|2,_|3,_|4,_|5,_=>decide
theorem bf(V:Int->Int×Bool)(x:Int)(s:GS):(gask V x s).asked=s.asked++[x]:=by
 unfold gask;cases aS V x s<;>rfl
theorem im(V:Int->Int×Bool)(x:Int)(s:GS)(h:s.ok=false->s.w=0/\s.n=0):(gask V x s).ok=false->(gask V x s).w=0/\(gask V x s).n=0:=by
 unfold gask;cases aS V x s
 ·exact h
 ·intro h;cases h
theorem fD(V:Int->Int×Bool)(j:Nat):j<=6->(0<=(giter V j).1/\(giter V j).1+gD j<=34)/\((giter V j).2.ok=false->(giter V j).2.w=0/\(giter V j).2.n=0)/\(giter V j).2.asked.length=(if j=6 then 7 else j+2):=by
 induction j with
 | zero=>
  intro _;refine⟨⟨Int.le_refl 0,Int.le_refl 34⟩,im _ _ _ (im _ _ _ fun _=>⟨rfl,rfl⟩),?_⟩;simp[giter,bf]
 | succ j c=>
  intro f;obtain⟨e,a,d⟩:=c (by omega);have g:=gXY j (by omega);have b:(giter V j).2.asked.length=j+2:=by rw[d,if_neg (by omega)]
  unfold giter qY;generalize giter V j=r at *;cases gm (V (r.1+gX j)) (V (r.1+gY j))
  ·simp only[cond_false,gp];refine⟨by omega,?_,?_⟩
   ·split
    ·exact a
    ·exact im _ _ _ a
   ·split
    ·rw[b];subst_vars;rfl
    ·rw[bf,List.length_append,b,if_neg (by omega)];rfl
  ·simp only[cond_true,kA];refine⟨by omega,?_,?_⟩
   ·split
    ·exact a
    ·exact im _ _ _ a
   ·split
    ·rw[b];subst_vars;rfl
    ·rw[bf,List.length_append,b,if_neg (by omega)];rfl
open Go.RowKit
def aT(t u:TypeId)(B:Nat)(w w':World):Prop:=
 w'.os=w.os/\w'.tape=w.tape/\w'.output=w.output/\w.heap.size<=w'.heap.size/\∀k,k<w.heap.size->(B<=k->∀cs,¬Blk w k cs t/\¬Blk w k cs u)->w'.heap[k]? = w.heap[k]?
def aX(t:TypeId)(w w':World):Prop:=w.heap.size<=w'.heap.size/\∀k cs,Blk w k cs t->Blk w' k cs t
section
variable {t u:TypeId} {B:Nat} {w w' w'':World}
theorem aT.refl:aT t u B w w:=⟨rfl,rfl,rfl,Nat.le_refl _,fun _ _ _=>rfl⟩
theorem aT.alloc(h:aT t u B w w')(o:Obj):aT t u B w (w'.alloc o):=
 ⟨h.1,h.2.1,h.2.2.1,by have:=h.2.2.2.1;simp;omega,fun k a b=>by rw[Below.heap_alloc w' o k (Nat.lt_of_lt_of_le a h.2.2.2.1)];exact h.2.2.2.2 k a b⟩
theorem aT.drew(h:aT t u B w w'):aT t u B w w'.drew:=h
theorem aT.turn(h:aT t u B w w')(g:Nat)(i:B<=g)(b:w.heap.size<=g∨∃c,Blk w g c t∨Blk w g c u)(a:World)(j:a.os=w'.os)(n:a.tape=w'.tape)(l:a.output=w'.output)(o:a.heap.size=w'.heap.size)(m:∀k,k≠g->a.heap[k]? = w'.heap[k]?):aT t u B w a:=
 ⟨by rw[j];exact h.1,by rw[n];exact h.2.1,by rw[l];exact h.2.2.1,by rw[o];exact h.2.2.2.1,fun k f d=>by
  rw[m k (fun e=>?_)]
  ·exact h.2.2.2.2 k f d
  ·subst e
   rcases b with b|⟨c,b|b⟩
   ·omega
   ·exact(d i c).1 b
   ·exact(d i c).2 b⟩
theorem aT.setCell(h:aT t u B w w')(g i:Nat)(v:Value)(hB:B<=g)(c:w.heap.size<=g∨∃a,Blk w g a t∨Blk w g a u):aT t u B w (w'.setCell ⟨g,i,none⟩ v):=
 h.turn g hB c _ rfl rfl rfl (by simp) (fun k b=>heap_setCell_other w' ⟨g,i,none⟩ k v b)
theorem aT.putRow(h:aT t u B w w')(g o:Nat)(cs:Array Value)(a:B<=g)(c:w.heap.size<=g∨∃cs,Blk w g cs t∨Blk w g cs u):aT t u B w (w'.putRow g o cs):=
 h.turn g a c _ rfl rfl rfl (by simp) (fun k b=>bS g o cs k b)
theorem aX.refl:aX t w w:=⟨Nat.le_refl _,fun _ _ h=>h⟩
theorem aX.trans(h:aX t w w')(a:aX t w' w''):aX t w w'':=⟨Nat.le_trans h.1 a.1,fun k cs hb=>a.2 k cs (h.2 k cs hb)⟩
theorem aX.alloc(h:aX t w w')(o:Obj):aX t w (w'.alloc o):=⟨by have:=h.1;simp;omega,fun k cs hb=>(h.2 k cs hb).alloc o⟩
theorem aX.drew(h:aX t w w'):aX t w w'.drew:=h
end
theorem sF(n m:Int)(p q:Bool)(w:World):zR 209 #[.agg #[n,p],.agg #[m,q]] w (.bool (gm (n,p) (m,q))):=by
 cases q
 ·go_enter func209,ntmps209;go_wp2
  go_ret;exact⟨rfl,ae⟩
 ·cases p
  ·go_enter func209,ntmps209;go_wp2
   go_ret;exact⟨rfl,ae⟩
  ·have E:Hid (gm (n,true) (m,true)=decide (n<=m)):=rfl;go_enter func209,ntmps209;go_wp2
   go_ret;exact⟨by rw[E.out];rfl,ae⟩
theorem Blk.ne{w:World}{b e:Nat}{c c':Array Value}{t d:TypeId}(h:Blk w b c t)(a:Blk w e c' d)(hne:t≠d):b≠e:=by
 rintro rfl;unfold Blk at h a;rw[h] at a;injection a with a
 injection a with _ ht
 exact hne ht
theorem Blk.facts{w:World}{b:Nat}{c:Array Value}{t:TypeId}(h:Blk w b c t):b<w.heap.size/\(∀o,w.cell? ⟨b,o,none⟩=c[o]?)/\(∀o,w.frozen? ⟨b,o,none⟩=false)/\(∀n,w.fits b n=decide (n<=c.size))/\(∀o a,o+a.size<=c.size->ones a=true->w.put? b o a=some (w.putRow b o a))/\w.row? b 0 c.size=some c:=
 ⟨h.lt,h.at,h.frozen,fun n=>by unfold World.fits;unfold Blk at h;rw[h];rfl,fun o a e d=>h.put? o a e d,h.row?_all _ rfl⟩
theorem fh(V:Int->Int×Bool)(x:Int)(s:GS):(gask V x s).w=bif aS V x s then x else s.w:=by unfold gask;cases aS V x s<;>rfl
theorem fi(V:Int->Int×Bool)(x:Int)(s:GS):(gask V x s).n=bif aS V x s then (V x).1 else s.n:=by unfold gask;cases aS V x s<;>rfl
theorem ec(V:Int->Int×Bool)(x:Int)(s:GS):(gask V x s).ok=bif aS V x s then true else s.ok:=by unfold gask;cases aS V x s<;>rfl
theorem uQ(o:FuncId)(a:Array Value)(g B:Nat)(V:Int->Int×Bool)(n:Int)(p:Bool)(I:List Int->World->Prop)(s:GS)(x:Int)(w:World)(Z:V x=(n,p))(a5:∀h w,Sem.run prog (callFunc o h) w=.ok (.enter o h) w)(P:∀l w w',aT 290 292 B w w'->I l w->I l w')(S:∀w,I s.asked w->Calls prog o (#[.int .i64 x]++a) w fun e w'=>e=.returned (.tuple #[n,p])/\I (s.asked++[x]) w'/\aX 290 w w'/\aX 292 w w')(D:Blk w g #[.func (.func o) #[] a,.int .i64 s.w,.int .i64 s.n,.bool s.ok] 292)(hB:B<=g)(a4:B<=w.heap.size)(Y:I s.asked w):Calls prog 208 #[.pointer (some ⟨g,0,none⟩),x] w fun e w'=>e=.returned (.agg #[n,p])/\I (gask V x s).asked w'/\
   Blk w' g #[.func (.func o) #[] a,.int .i64 (gask V x s).w,.int .i64 (gask V x s).n,.bool (gask V x s).ok] 292/\w.heap.size<=w'.heap.size/\aX 290 w w':=by
 obtain⟨y0,c0,f0,t0,p0,r0⟩:=D.facts;have M:Hid (∀W,I s.asked W->Calls prog o (#[.int .i64 x]++a) W fun e w'=>e=.returned (.tuple #[n,p])/\I (s.asked++[x]) w'/\aX 290 W w'/\aX 292 W w'):=S;have X:=Lh P;have J:=Lh Y;have U:=Lh D;have C:=Lh Z;clear S P Y D Z;go_enter func208,ntmps208;go_wp2_with fail;refine(M.out _ (X.out _ _ _ (aT.refl.alloc _) J.out)).mono ?_;rintro e L ⟨rfl,q,j,i⟩;have y:=Lh q;have r:=Lh (j.2 _ _ (Blk.new w _ _));have m:=Lh (i.2 _ _ (U.out.alloc _));have z:=Lh j;have a3:=Lh i;clear q j i c0 f0 t0 p0 r0 J;obtain⟨y1,c1,f1,t1,p1,r1⟩:=m.out.facts;obtain⟨y2,c2,f2,t2,p2,r2⟩:=r.out.facts;have a7:¬(g=w.heap.size):=by omega
 have a2:¬(w.heap.size=g):=by omega
 have a6:¬(g=L.heap.size):=by omega
 have a0:¬(w.heap.size=L.heap.size):=by omega
 obtain⟨T,f⟩:∃k,k=s.w:=⟨_,rfl⟩;obtain⟨v,c⟩:∃k,k=s.n:=⟨_,rfl⟩;obtain⟨so,d⟩:∃k,k=s.ok:=⟨_,rfl⟩;have G:Hid (aS V x s=(p&&(!so||decide (n<v)||(n==v&&decide (x<T))))):=by unfold aS;rw[C.out,f,c,d];exact rfl
 simp only[<-f,<-c,<-d] at c1 r1;have N:=Lh f;have Q:=Lh c;have R:=Lh d;clear f c d;cases p;rotate_left
 cases so;rotate_left
 by_cases A:n<v;rotate_left
 by_cases H:n=v;by_cases K:x<T
 all_goals
  first
   | (have O:Hid (aS V x s=false):=by show aS V x s=_;rw[G.out];first|rfl|(simp[A];done)|(simp[H,K];done)|(simp[A,H];done))
   | (have O:Hid (aS V x s=true):=by show aS V x s=_;rw[G.out];first|rfl|(simp[A];done)|(simp[H,K];done))
  clear G;go_wp2_with fail;try go_region
  all_goals try go_wp2
  all_goals (refine ak 2 #[.int .i64 n,.bool _] rfl rfl rfl underlying290 rfl (by kernel_rfl) rc2 ⟨rfl,?_,?_,?_,?_⟩;(focus (rw[bf];exact X.out _ _ _ (by repeat (first|with_reducible exact aT.refl|with_reducible refine aT.alloc ?_ _|with_reducible refine aT.drew ?_|(with_reducible refine aT.setCell (g:=g) ?_ _ _ ?hB (.inr ⟨_,.inr m.out⟩);case hB=>omega)|(with_reducible refine aT.setCell ?_ _ _ _ ?hB (.inr ⟨_,.inl r.out⟩);case hB=>omega))) y.out));(focus (rw[fh,fi,ec,O.out];apply Blk.of_eq;(focus ((repeat (first|with_reducible exact m.out|with_reducible apply Blk.alloc|with_reducible apply Blk.drew|with_reducible apply Blk.ab (b:=g)|(with_reducible apply Blk.ac;case hne=>(first|omega|(simp;done)|(simp;omega)))))));(focus (first|rfl|(simp[N.out.symm,Q.out.symm,R.out.symm,C.out];done)|(simp[N.out.symm,Q.out.symm,R.out.symm,C.out];omega)))));(focus (first|(simp;done)|(simp;omega)));exact⟨(by first|(simp;done)|(simp;omega)),(fun k cs E=>(by have hk:=E.lt;have a1:=Blk.ne E U.out (by decide);have F:=z.out.2 k cs (E.alloc _);repeat (first|with_reducible exact F|with_reducible refine Blk.alloc ?_ _|with_reducible refine Blk.drew ?_|(with_reducible apply Blk.ac;case hne=>(first|omega|(simp;done)|(simp;omega))))))⟩)
def Exit.jumps(K:Nat->Act->World->Prop)(Q:Exit->Act->World->Prop):Exit->Act->World->Prop
 | .goto l,a,w=>K l a w
 | e,a,w=>Q e a w
theorem kG{P:Program}{a:Act}{w:World}{Q:Exit->Act->World->Prop}{c:Code}(J:Nat->Act->World->Prop)(μ:Nat->Act->World->Nat)(p:∀l a w,J l a w->∃d,findLabel c l=some (Code.skip.seq d)/\d.wp P (Exit.jumps (fun r v w'=>J r v w'/\μ r v w' < μ l a w) Q) a w)(first:(∀l a w,J l a w->∃d,findLabel c l=some (Code.skip.seq d)/\d.wp P (Exit.jumps J Q) a w)->c.wp P (Exit.jumps J Q) a w):(Code.scope c).wp P Q a w:=by
 intro b k A
 have E:∀n l d a w,μ l a w=n->J l a w->findLabel c l=some (Code.skip.seq d)->∃e v w',Q e v w'/\Arrives P (lone (b.at a (.code (Code.skip.seq d) :: .inScope c :: k)) A w) b k A e v w':=by
  intro n;induction n using Nat.strongRecOn with
  | _ n O=>
   intro l d a w T I F;obtain⟨H,y,D⟩:=p l a w I;rw[F] at y;cases y;obtain⟨e,j,g,o,f⟩:=wp_seq (wp_skip (Q:=Exit.then _ _) D) b (.inScope c :: k) A;cases e with
   | normal=>exact⟨.normal,j,g,o,Steps.trans f (.one step_inScope)⟩
   | exit z=>exact⟨.exit z,j,g,o,fun C M=>f C (by simp[exitTo,M])⟩
   | goto r=>
    obtain⟨x,R⟩:=o;obtain⟨m,q,_⟩:=p r j g x;obtain⟨L,K,G,s,i⟩:=O _ (by omega) r m j g rfl x q;exact⟨L,K,G,s,.of_steps (f _ (by simp[gotoIn,q])) i⟩
   | ret=>exact⟨_,j,g,o,f⟩
   | panic N=>exact⟨_,j,g,o,f⟩
   | outgrown=>exact⟨_,j,g,o,f⟩
 have S:∀l a w,J l a w->∃d,findLabel c l=some (Code.skip.seq d)/\d.wp P (Exit.jumps J Q) a w:=by
  intro l a w I;obtain⟨d,F,D⟩:=p l a w I;refine⟨d,F,Code.wp_mono (fun e v w' h=>?_) D⟩;cases e with
  | goto r=>exact h.1
  | normal=>exact h
  | exit z=>exact h
  | ret=>exact h
  | panic N=>exact h
  | outgrown=>exact h
 obtain⟨e,j,g,o,f⟩:=first S b (.inScope c :: k) A
 cases e with
 | normal=>exact⟨.normal,j,g,o,.head step_scope (Steps.trans f (.one step_inScope))⟩
 | exit z=>exact⟨.exit z,j,g,o,fun C M=>.head step_scope (f C (by simp[exitTo,M]))⟩
 | goto r=>
  obtain⟨m,q,_⟩:=p r j g o;obtain⟨L,K,G,s,i⟩:=E _ r m j g rfl o q;exact⟨L,K,G,s,.of_steps (.head step_scope (f _ (by simp[gotoIn,q]))) i⟩
 | ret=>exact⟨_,j,g,o,.of_steps (.one step_scope) f⟩
 | panic N=>exact⟨_,j,g,o,.of_steps (.one step_scope) f⟩
 | outgrown=>exact⟨_,j,g,o,.of_steps (.one step_scope) f⟩
theorem eY{t u:TypeId}{B:Nat}{w w':World}(h:zB w w')(_:B<=w.heap.size):aT t u B w w':=⟨h.os,h.tape,h.output,h.size,fun k a _=>h.block k a⟩
theorem sB(b:FuncId)(a:Array Value)(w:World):Sem.run prog (binOp BinOp.eql 223 (Value.func (Fn.func b) #[] a) Value.nilFunc) w=.ok (.bool false) w:=by rfl
def Ck(fn:FuncId)(caps:Array Value)(V:Int->Int×Bool)(I:List Int->World->Prop)(B:Nat)(l:Nat)(A:Act)(w:World):Prop:=
 ∃(j g g1 g2:Nat) (a b x y:Int) (s:GS) (u12 u13 u14 u15 u16 u17 u18 u19 u20 u21 u22 u23 u24 u25 u26 u27 u28 u29 u30 u31 u32 u33 u34 u35 u36 u37 u38 u39 u40 u41 u42 u43 u44 u45 u46 u47 u48 u49 u50 u51 u52 u53 u54 u55 u56 u57 u58 u59 u60 u61 u62 u63 u64 u65 u66 u67 u68 u69 u70 u71 u72:Value),
  A={tmps:=#[.func (.func fn) #[] caps,undef,.int .i64 0,.int .i64 0,.bool false,.pointer (some ⟨g,0,none⟩),.int .i64 a,.int .i64 b,.int .i64 x,.int .i64 y,.pointer (some ⟨g1,0,none⟩),.pointer (some ⟨g2,0,none⟩),u12,u13,u14,u15,u16,u17,u18,u19,u20,u21,u22,u23,u24,u25,u26,u27,u28,u29,u30,u31,u32,u33,u34,u35,u36,u37,u38,u39,u40,u41,u42,u43,u44,u45,u46,u47,u48,u49,u50,u51,u52,u53,u54,u55,u56,u57,u58,u59,u60,u61,u62,u63,u64,u65,u66,u67,u68,u69,u70,u71,u72],defers:=[]}/\
  j<=6/\(a,s)=giter V j/\b=a+gD j/\x=a+gX j/\y=a+gY j/\B<=g/\B<=g1/\B<=g2/\I s.asked w/\B<=w.heap.size/\g1≠g2/\l<=1/\(l=1->j<6/\gm (V x) (V y)=false)/\
  Blk w g #[.func (.func fn) #[] caps,.int .i64 s.w,.int .i64 s.n,.bool s.ok] 292/\
  Blk w g1 #[.int .i64 (V x).1,.bool (V x).2] 290/\Blk w g2 #[.int .i64 (V y).1,.bool (V y).2] 290
def cF(l:Nat)(A:Act)(_:World):Nat:=
 match A.tmps.getD 6 undef,A.tmps.getD 7 undef with
 | .int _ a,.int _ b=>2*(b-a).toNat+(1-l)
 | _,_=>0
theorem nB(V:Int->Int×Bool)(j:Nat)(a:Int)(s:GS)(h:(a,s)=giter V j)(b:gm (V (a+gX j)) (V (a+gY j))=true):giter V (j+1)=kA V j a s:=by
 unfold giter qY;rw[<-h];simp only[b,cond_true]
theorem lP(V:Int->Int×Bool)(j:Nat)(a:Int)(s:GS)(h:(a,s)=giter V j)(b:gm (V (a+gX j)) (V (a+gY j))=false):giter V (j+1)=gp V j a s:=by
 unfold giter qY;rw[<-h];simp only[b,cond_false]
theorem zu(fn:FuncId)(k:Array Value)(V:Int->Int×Bool)(I:List Int->World->Prop)(w:World)(a2:∀a5 w,Sem.run prog (callFunc fn a5) w=.ok (.enter fn a5) w)(hS:∀l F w2,aT 290 292 w.heap.size F w2->I l F->I l w2)(hC:∀(l:List Int) (x:Int) (F:World),l.length<=7->0<=x->x<=34->I l F->Calls prog fn (#[.int .i64 x]++k) F fun e w'=>e=.returned (.tuple #[.int .i64 (V x).1,.bool (V x).2])/\I (l++[x]) w'/\aX 290 F w'/\aX 292 F w')(hI:I [] w):Calls prog 157 #[.func (.func fn) #[] k] w fun e w'=>e=.returned (.tuple #[.int .i64 (gfin V).w,.int .i64 (gfin V).n,.bool (gfin V).ok])/\I (gfin V).asked w'/\w.heap.size<=w'.heap.size:=by
 have H:=Lh hS;have HC:=Lh hC;have T:=Lh hI;clear hS hC hI;have k0:=sB fn k;go_enter func157,ntmps157;go_wp2_with fail;refine kG (Ck fn k V I w.heap.size) cF ?_ ?_
 ·rintro l A W ⟨j,g,G,J,a,b,x,y,s,e7,i1,f9,e5,d9,j4,g3,k4,g9,i7,d0,l4,e6,i5,l0,k5,d3,d7,i9,h9,d4,j9,l2,i6,i8,f5,j6,e3,j0,i4,l1,j3,k2,d1,k9,i2,k3,i0,g6,k7,j7,f7,e4,l5,k6,e8,f6,d5,d6,g0,e9,l3,g7,i3,k1,k8,j2,d8,f8,h8,j1,rfl,hj,o,O,S,Q,g4,c9,c8,b2,g5,hne,hl,a1,hG,N,E⟩;obtain⟨y0,c0,f0,-,-,r0⟩:=hG.facts;obtain⟨y1,c1,f1,-,-,r1⟩:=N.facts;obtain⟨y2,c2,f2,-,-,r2⟩:=E.facts;have b8:=Blk.ne hG N (by decide);have c7:=Blk.ne hG E (by decide);have g8:=Ne.symm b8;have h7:=Ne.symm c7;have j8:=Ne.symm hne;have T:=Lh b2;have Z:=Lh hG;have d:=Lh N;have c:=Lh E;have P:=(fD V j hj).1
  have a6:s.asked.length<=7:=by
   have h:=(fD V j hj).2.2;rw[<-o] at h;simp only at h;split at h<;>omega
  rw[<-o] at P;simp only at P;clear b2 hG N E;rcases Nat.lt_or_ge 0 l with h0|h0
  ·obtain rfl:l=1:=by omega
   obtain⟨b7,p⟩:=a1 rfl;have i:=gXY j b7;refine⟨_,rfl,?_⟩;obtain⟨z,hz⟩:∃z,z=x+b-y:=⟨_,rfl⟩;have e1:wrap64 (x+b)=x+b:=by unfold wrap64;omega
   have e2:wrap64 (x+b-y)=z:=by rw[hz];unfold wrap64;omega
   have v:=Lh (lP V j a s o (by rw[<-S,<-Q];exact p));have f:Hid (z=x+gY (j+1)):=show z=x+gY (j+1) from by omega
   have HR:Hid (0<=z/\z<=34):=show 0<=z/\z<=34 from by have:=f.out;omega
   by_cases h5:j=5
   ·have L:z=y:=by subst h5;have h1:=f.out;simp only[gX,gY,gD] at *;omega
    rw[L] at e2 f;clear L;have X:=Lh S;have HY:=Lh Q;have HB:=Lh O;replace i:=Lh i;clear p o a1 S Q O hz P;go_wp2_with fail;go_region
    all_goals go_wp2_with fail
    all_goals go_step3
    all_goals simp only[e2]
    all_goals focus
     have h1:=X.out;have h2:=HY.out;have h3:=HB.out;have h4:=i.out;have a3:=f.out;have q1:=Z.out;have q2:=d.out;have q3:=c.out;refine⟨⟨j+1,g,G,J,x,b,y,y,s,_,_,_,_,_,_,_,_,_,_,_,_,_,_,_,_,_,_,_,_,_,_,_,_,_,_,_,_,_,_,_,_,_,_,_,_,_,_,_,_,_,_,_,_,_,_,_,_,_,_,_,_,_,_,_,_,_,_,_,_,_,rfl,by omega,by rw[v.out];unfold gp;rw[if_pos h5,<-X.out],by omega,by omega,by omega,by omega,by omega,by omega,H.out _ _ _ (by repeat (first|with_reducible exact aT.refl|with_reducible refine aT.alloc ?_ _|with_reducible refine aT.drew ?_|(with_reducible refine aT.setCell (g:=G) ?_ _ _ ?hB (.inr ⟨_,.inl d.out⟩);case hB=>omega)|(with_reducible refine aT.setCell (g:=J) ?_ _ _ ?hB (.inr ⟨_,.inl c.out⟩);case hB=>omega))) T.out,(by first|omega|(simp;done)|(simp;omega)),by omega,by decide,fun h=>absurd h (by decide),?_,?_,?_⟩,?_⟩;iterate 3 (apply Blk.of_eq;(focus (repeat (first|with_reducible assumption|with_reducible apply Blk.alloc|with_reducible apply Blk.drew|with_reducible apply Blk.ab|(with_reducible apply Blk.ac;case hne=>(first|omega|(simp;done)|(simp;omega))))));(focus (first|rfl|(simp;done))))
     first|(simp[cF];done)|(simp[cF];omega)
   · have L : ¬ z = y := by
       have:gX (j+1)<gY (j+1):=(gXY (j+1) (by omega)).2.2.2.2.2.2.1;have:=f.out;omega
     have X:=Lh S;have HY:=Lh Q;have HB:=Lh O;replace i:=Lh i;clear p o a1 S Q O hz P;go_wp2_with fail;go_region
     all_goals go_wp2_with fail
     all_goals focus
      refine(uQ fn k g w.heap.size V (V z).1 (V z).2 I s z _ rfl a2 H.out (fun F h=>HC.out _ z F a6 HR.out.1 HR.out.2 h) (by apply Blk.of_eq;(focus (repeat (first|with_reducible exact Z.out|with_reducible apply Blk.alloc|with_reducible apply Blk.drew|with_reducible apply Blk.ab (b:=g)|(with_reducible apply Blk.ac;case hne=>(first|omega|(simp;done)|(simp;omega)))))); (focus (first|rfl|(simp;done)))) (by omega) (by first|omega|(simp;done)|(simp;omega)) (H.out _ _ _ (by repeat (first|with_reducible exact aT.refl|with_reducible refine aT.alloc ?_ _|with_reducible refine aT.drew ?_|(with_reducible refine aT.setCell (g:=G) ?_ _ _ ?hB (.inr ⟨_,.inl d.out⟩);case hB=>omega)|(with_reducible refine aT.setCell (g:=J) ?_ _ _ ?hB (.inr ⟨_,.inl c.out⟩);case hB=>omega))) T.out)).mono ?_;rintro e w3 ⟨rfl,U,Y,R,M⟩;have q:=Lh (M.2 G #[.int .i64 (V y).1,.bool (V y).2] (by apply Blk.of_eq;(focus (repeat (first|with_reducible exact d.out|with_reducible apply Blk.alloc|with_reducible apply Blk.drew|with_reducible apply Blk.ab (b:=G)|(with_reducible apply Blk.ac;case hne=>(first|omega|(simp;done)|(simp;omega)))))); (focus (first|rfl|(simp;done)))));have C:=Lh (M.2 J #[.int .i64 (V y).1,.bool (V y).2] (by apply Blk.of_eq;(focus (repeat (first|with_reducible exact c.out|with_reducible apply Blk.alloc|with_reducible apply Blk.drew|with_reducible apply Blk.ab (b:=J)|(with_reducible apply Blk.ac;case hne=>(first|omega|(simp;done)|(simp;omega)))))); (focus (first|rfl|(simp;done)))));have a8:=Lh U;have a7:=Lh Y;have a9:=R;simp at a9;clear U Y R M;obtain⟨y3,c3,f3,-,-,r3⟩:=q.out.facts;obtain⟨y4,c4,f4,-,-,r4⟩:=C.out.facts;go_wp2_with fail;go_step3
      have h1:=X.out;have h2:=HY.out;have h3:=HB.out;have h4:=i.out;have a3:=f.out;have q1:=a7.out;have q2:=q.out;have q3:=C.out;refine⟨⟨j+1,g,G,J,x,b,y,z,gask V z s,_,_,_,_,_,_,_,_,_,_,_,_,_,_,_,_,_,_,_,_,_,_,_,_,_,_,_,_,_,_,_,_,_,_,_,_,_,_,_,_,_,_,_,_,_,_,_,_,_,_,_,_,_,_,_,_,_,_,_,_,_,rfl,by omega,by rw[v.out];unfold gp;rw[if_neg h5,<-X.out,<-f.out],by omega,by omega,by omega,by omega,by omega,by omega,H.out _ _ _ (by repeat (first|with_reducible exact aT.refl|with_reducible refine aT.alloc ?_ _|with_reducible refine aT.drew ?_|(with_reducible refine aT.setCell (g:=G) ?_ _ _ ?hB (.inr ⟨_,.inl q.out⟩);case hB=>omega)|(with_reducible refine aT.setCell (g:=J) ?_ _ _ ?hB (.inr ⟨_,.inl C.out⟩);case hB=>omega))) a8.out,(by first|omega|(simp;done)|(simp;omega)),by omega,by decide,fun h=>absurd h (by decide),?_,?_,?_⟩,?_⟩;iterate 3 (apply Blk.of_eq;(focus (repeat (first|with_reducible assumption|with_reducible apply Blk.alloc|with_reducible apply Blk.drew|with_reducible apply Blk.ab|(with_reducible apply Blk.ac;case hne=>(first|omega|(simp;done)|(simp;omega))))));(focus (first|rfl|(simp;done))))
      first|(simp[cF];done)|(simp[cF];omega)
  ·obtain rfl:l=0:=by omega
   refine⟨_,rfl,?_⟩;clear a1;by_cases h6:j=6
   ·have hd:wrap64 (b-a)=2:=by subst h6;simp only[gD] at O;rw[O];unfold wrap64;omega
    have a4:Hid (s=gfin V):=show s=gfin V from by subst h6;unfold gfin;rw[<-o]
    clear O S Q o;go_wp2_with fail;go_region
    all_goals go_wp2_with fail
    all_goals simp only[Exit.jumps]
    all_goals go_ret3
    all_goals exact⟨by rw[<-a4.out];rfl,by rw[<-a4.out];exact H.out _ _ _ (by repeat (first|with_reducible exact aT.refl|with_reducible refine aT.alloc ?_ _|with_reducible refine aT.drew ?_|(with_reducible refine aT.setCell (g:=G) ?_ _ _ ?hB (.inr ⟨_,.inl d.out⟩);case hB=>omega)|(with_reducible refine aT.setCell (g:=J) ?_ _ _ ?hB (.inr ⟨_,.inl c.out⟩);case hB=>omega))) T.out,(by first|omega|(simp;done)|(simp;omega))⟩
   ·have i:=gXY j (by omega);obtain⟨D,hD⟩:∃D,D=gD j:=⟨_,rfl⟩;have hd:wrap64 (b-a)=D:=by rw[O,hD];unfold wrap64;omega
    have j5:¬D<=2:=by omega
    cases p:gm (V x) (V y)
    ·have hm:Hid (gm ((V x).1,(V x).2) ((V y).1,(V y).2)=false):=p;have b5:=Lh p;have c6:=Lh o;have X:=Lh S;have HY:=Lh Q;have HB:=Lh O;replace i:=Lh i;have f:Hid True:=trivial;clear p o S Q O hD;go_wp2_with fail;refine(sF _ _ _ _ _).mono ?_;rintro e w3 ⟨rfl,a0⟩;rw[hm.out];have R:=a0.size;go_wp2_with fail;go_step3
     have h1:=X.out;have h2:=HY.out;have h3:=HB.out;have h4:=i.out;have a3:=f.out
     refine⟨⟨j,g,G,J,a,b,x,y,s,_,_,_,_,_,_,_,_,_,_,_,_,_,_,_,_,_,_,_,_,_,_,_,_,_,_,_,_,_,_,_,_,_,_,_,_,_,_,_,_,_,_,_,_,_,_,_,_,_,_,_,_,_,_,_,_,_,_,_,_,_,rfl,by omega,c6.out,by omega,by omega,by omega,by omega,by omega,by omega,H.out _ W w3 (eY a0 (by omega)) T.out,(by first|omega|(simp;done)|(simp;omega)),by omega,by decide,fun _=>⟨by omega,b5.out⟩,Z.out.keep a0,d.out.keep a0,c.out.keep a0⟩,?_⟩
     first|(simp[cF];done)|(simp[cF];omega)
    ·have hm:Hid (gm ((V x).1,(V x).2) ((V y).1,(V y).2)=true):=p;have v:=Lh (nB V j a s o (by rw[<-S,<-Q];exact p));obtain⟨z,hz⟩:∃z,z=a+y-x:=⟨_,rfl⟩;have e1:wrap64 (a+y)=a+y:=by unfold wrap64;omega
     have e2:wrap64 (a+y-x)=z:=by rw[hz];unfold wrap64;omega
     have f:Hid (z=a+gX (j+1)):=show z=a+gX (j+1) from by omega
     have HR:Hid (0<=z/\z<=34):=show 0<=z/\z<=34 from by have:=f.out;omega
     by_cases h5:j=5
     ·have L:z=x:=by subst h5;have h1:=f.out;simp only[gX,gY,gD] at *;omega
      rw[L] at e2 f;clear L;have X:=Lh S;have HY:=Lh Q;have HB:=Lh O;replace i:=Lh i;clear p o S Q O hz P hD;go_wp2_with fail;refine(sF _ _ _ _ _).mono ?_;rintro e w4 ⟨rfl,m⟩;rw[hm.out];have b9:=m.size;have T:=Lh (H.out _ W w4 (eY m (by omega)) T.out);have Z:=Lh (Z.out.keep m);have d:=Lh (d.out.keep m);have c:=Lh (c.out.keep m);clear c0 f0 r0 c1 f1 r1 c2 f2 r2 y0 y1 y2 m;obtain⟨y0,c0,f0,-,-,r0⟩:=Z.out.facts;obtain⟨y1,c1,f1,-,-,r1⟩:=d.out.facts;obtain⟨y2,c2,f2,-,-,r2⟩:=c.out.facts;go_wp2_with fail;go_region
      all_goals go_wp2_with fail
      all_goals go_step3
      all_goals simp only[e2]
      all_goals focus
       have h1:=X.out;have h2:=HY.out;have h3:=HB.out;have h4:=i.out;have a3:=f.out;have q1:=Z.out;have q2:=d.out;have q3:=c.out;refine⟨⟨j+1,g,G,J,a,y,x,x,s,_,_,_,_,_,_,_,_,_,_,_,_,_,_,_,_,_,_,_,_,_,_,_,_,_,_,_,_,_,_,_,_,_,_,_,_,_,_,_,_,_,_,_,_,_,_,_,_,_,_,_,_,_,_,_,_,_,_,_,_,_,rfl,by omega,by rw[v.out];unfold kA;rw[if_pos h5],by omega,by omega,by omega,by omega,by omega,by omega,H.out _ _ _ (by repeat (first|with_reducible exact aT.refl|with_reducible refine aT.alloc ?_ _|with_reducible refine aT.drew ?_|(with_reducible refine aT.setCell (g:=G) ?_ _ _ ?hB (.inr ⟨_,.inl d.out⟩);case hB=>omega)|(with_reducible refine aT.setCell (g:=J) ?_ _ _ ?hB (.inr ⟨_,.inl c.out⟩);case hB=>omega))) T.out,(by first|omega|(simp;done)|(simp;omega)),by omega,by decide,fun h=>absurd h (by decide),?_,?_,?_⟩,?_⟩;iterate 3 (apply Blk.of_eq;(focus (repeat (first|with_reducible assumption|with_reducible apply Blk.alloc|with_reducible apply Blk.drew|with_reducible apply Blk.ab|(with_reducible apply Blk.ac;case hne=>(first|omega|(simp;done)|(simp;omega))))));(focus (first|rfl|(simp;done))))
       first|(simp[cF];done)|(simp[cF];omega)
     · have L : ¬ z = x := by
         have:gX (j+1)<gY (j+1):=(gXY (j+1) (by omega)).2.2.2.2.2.2.1;have:=f.out;omega
       have X:=Lh S;have HY:=Lh Q;have HB:=Lh O;replace i:=Lh i;clear p o S Q O hz P hD;go_wp2_with fail;refine(sF _ _ _ _ _).mono ?_;rintro e w4 ⟨rfl,m⟩;rw[hm.out];have b9:=m.size;have T:=Lh (H.out _ W w4 (eY m (by omega)) T.out);have Z:=Lh (Z.out.keep m);have d:=Lh (d.out.keep m);have c:=Lh (c.out.keep m);clear c0 f0 r0 c1 f1 r1 c2 f2 r2 y0 y1 y2 m;obtain⟨y0,c0,f0,-,-,r0⟩:=Z.out.facts;obtain⟨y1,c1,f1,-,-,r1⟩:=d.out.facts;obtain⟨y2,c2,f2,-,-,r2⟩:=c.out.facts;go_wp2_with fail;go_region
       all_goals go_wp2_with fail
       all_goals focus
        refine(uQ fn k g w.heap.size V (V z).1 (V z).2 I s z _ rfl a2 H.out (fun F h=>HC.out _ z F a6 HR.out.1 HR.out.2 h) (by apply Blk.of_eq;(focus (repeat (first|with_reducible exact Z.out|with_reducible apply Blk.alloc|with_reducible apply Blk.drew|with_reducible apply Blk.ab (b:=g)|(with_reducible apply Blk.ac;case hne=>(first|omega|(simp;done)|(simp;omega)))))); (focus (first|rfl|(simp;done)))) (by omega) (by first|omega|(simp;done)|(simp;omega)) (H.out _ _ _ (by repeat (first|with_reducible exact aT.refl|with_reducible refine aT.alloc ?_ _|with_reducible refine aT.drew ?_|(with_reducible refine aT.setCell (g:=G) ?_ _ _ ?hB (.inr ⟨_,.inl d.out⟩);case hB=>omega)|(with_reducible refine aT.setCell (g:=J) ?_ _ _ ?hB (.inr ⟨_,.inl c.out⟩);case hB=>omega))) T.out)).mono ?_;rintro e w3 ⟨rfl,U,Y,R,M⟩;have q:=Lh (M.2 G #[.int .i64 (V x).1,.bool (V x).2] (by apply Blk.of_eq;(focus (repeat (first|with_reducible exact d.out|with_reducible apply Blk.alloc|with_reducible apply Blk.drew|with_reducible apply Blk.ab (b:=G)|(with_reducible apply Blk.ac;case hne=>(first|omega|(simp;done)|(simp;omega)))))); (focus (first|rfl|(simp;done)))));have C:=Lh (M.2 J #[.int .i64 (V x).1,.bool (V x).2] (by apply Blk.of_eq;(focus (repeat (first|with_reducible exact c.out|with_reducible apply Blk.alloc|with_reducible apply Blk.drew|with_reducible apply Blk.ab (b:=J)|(with_reducible apply Blk.ac;case hne=>(first|omega|(simp;done)|(simp;omega)))))); (focus (first|rfl|(simp;done)))));have a8:=Lh U;have a7:=Lh Y;have a9:=R;simp at a9;clear U Y R M;obtain⟨y3,c3,f3,-,-,r3⟩:=q.out.facts;obtain⟨y4,c4,f4,-,-,r4⟩:=C.out.facts;go_wp2_with fail;go_step3
        have h1:=X.out;have h2:=HY.out;have h3:=HB.out;have h4:=i.out;have a3:=f.out;have q1:=a7.out;have q2:=q.out;have q3:=C.out;refine⟨⟨j+1,g,G,J,a,y,z,x,gask V z s,_,_,_,_,_,_,_,_,_,_,_,_,_,_,_,_,_,_,_,_,_,_,_,_,_,_,_,_,_,_,_,_,_,_,_,_,_,_,_,_,_,_,_,_,_,_,_,_,_,_,_,_,_,_,_,_,_,_,_,_,_,rfl,by omega,by rw[v.out];unfold kA;rw[if_neg h5,<-f.out],by omega,by omega,by omega,by omega,by omega,by omega,H.out _ _ _ (by repeat (first|with_reducible exact aT.refl|with_reducible refine aT.alloc ?_ _|with_reducible refine aT.drew ?_|(with_reducible refine aT.setCell (g:=G) ?_ _ _ ?hB (.inr ⟨_,.inl q.out⟩);case hB=>omega)|(with_reducible refine aT.setCell (g:=J) ?_ _ _ ?hB (.inr ⟨_,.inl C.out⟩);case hB=>omega))) a8.out,(by first|omega|(simp;done)|(simp;omega)),by omega,by decide,fun h=>absurd h (by decide),?_,?_,?_⟩,?_⟩;iterate 3 (apply Blk.of_eq;(focus (repeat (first|with_reducible assumption|with_reducible apply Blk.alloc|with_reducible apply Blk.drew|with_reducible apply Blk.ab|(with_reducible apply Blk.ac;case hne=>(first|omega|(simp;done)|(simp;omega))))));(focus (first|rfl|(simp;done))))
        first|(simp[cF];done)|(simp[cF];omega)
 ·intro hp;go_wp2_with fail;have c5:=Lh (Blk.new w #[.func (.func fn) #[] k,.int .i64 0,.int .i64 0,.bool false] 292);refine(uQ fn k w.heap.size w.heap.size V (V 13).1 (V 13).2 I ⟨[],0,0,false⟩ 13 _ rfl a2 H.out (fun F h=>HC.out _ 13 F (by decide) (by decide) (by decide) h) c5.out (Nat.le_refl _) (by simp) (H.out _ _ _ (aT.refl.alloc _) T.out)).mono ?_;rintro e F ⟨rfl,b0,N,b4,-⟩;simp at b4;have b3:=Lh b0;have d:=Lh N;clear b0 N;go_wp2_with fail;refine(uQ fn k w.heap.size w.heap.size V (V 21).1 (V 21).2 I (gask V 13 ⟨[],0,0,false⟩) 21 _ rfl a2 H.out (fun F h=>HC.out _ 21 F (by rw[bf];exact(by decide:1<=7)) (by decide) (by decide) h) d.out (Nat.le_refl _) (by omega) b3.out).mono ?_;rintro e w2 ⟨rfl,b1,E,d2,-⟩;have b6:=Lh b1;have c:=Lh E;have y2:=E.lt;clear b1 E;go_wp2_with fail;have e0:Hid ((0,gask V 21 (gask V 13 ⟨[],0,0,false⟩))=giter V 0):=rfl;generalize gask V 21 (gask V 13 ⟨[],0,0,false⟩)=s2 at *;go_step3
  rename_i K hK;refine hK _ _ ?_;obtain⟨r,hr,h⟩:=hp 0 _ _ ⟨0,w.heap.size,w2.heap.size,w2.heap.size+1,0,34,13,21,s2,_,_,_,_,_,_,_,_,_,_,_,_,_,_,_,_,_,_,_,_,_,_,_,_,_,_,_,_,_,_,_,_,_,_,_,_,_,_,_,_,_,_,_,_,_,_,_,_,_,_,_,_,_,_,_,_,_,_,_,_,_,rfl,by omega,e0.out,by decide,by decide,by decide,Nat.le_refl _,by omega,by omega,H.out _ w2 _ ((aT.refl.alloc _).alloc _) b6.out,by simp;omega,by omega,by decide,fun h=>absurd h (by decide),(c.out.alloc _).alloc _,(Blk.new w2 _ _).alloc _,Blk.new' _ _ _ (by simp)⟩;injection hr with hr
  injection hr with _ hr
  rw[<-hr] at h;exact h
end Go.Proofs.YtechbdnhalmobaaGreatDoor
