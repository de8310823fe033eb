/- Walks. -/
import Derived.Test.YtechbdnhalmobaaGreatDoorJc
import Derived.Test.YtechbdnhalmobaaGreatDoorGA
import Derived.Laws.EntriesVeiled
import Derived.OwnWalk
import Derived.Laws.OwnMore
import Derived.OneCell
import Derived.Test.YtechbdnhalmobaaGreatDoorN14
import Derived.Lib.QuietBelow
import Derived.BigQuiet
namespace Go.Proofs.YtechbdnhalmobaaGreatDoor
set_option maxRecDepth 100000
set_option maxHeartbeats 16000000
set_option linter.unusedSimpArgs false
set_option linter.unusedVariables false
open Go.Proofs.Tryz
open Go.RowKit
structure CA (V:Int->Int×Bool) (s:GS):Prop where
 rng:∀x∈s.asked,0<=x/\x<=34
 best:s.ok=true->s.w∈s.asked/\V s.w=(s.n,true)
 least:∀x∈s.asked,(V x).2=true->s.ok=true/\s.n<=(V x).1
theorem jd(V:Int->Int×Bool)(x:Int)(s:GS)(h:CA V s)(f:0<=x)(g:x<=34):CA V (gask V x s):=by
 unfold gask;cases b:aS V x s with
 | true=>
  simp only[cond_true];unfold aS at b;simp only[Bool.and_eq_true,Bool.or_eq_true,Bool.not_eq_true',decide_eq_true_eq,beq_iff_eq] at b;obtain⟨j,b⟩:=b;refine⟨?_,?_,?_⟩
  ·intro y a;simp only[List.mem_append,List.mem_singleton] at a;rcases a with a|rfl
   ·exact h.rng y a
   ·exact⟨f,g⟩
  ·intro _;exact⟨by simp,Prod.ext rfl j⟩
  ·intro y a c;simp only[List.mem_append,List.mem_singleton] at a;refine⟨rfl,?_⟩;rcases a with a|rfl
   ·obtain⟨d,e⟩:=h.least y a c;show(V x).1<=(V y).1;rcases b with (b|b)|⟨b,-⟩
    ·rw[d] at b;cases b
    ·omega
    ·omega
   ·exact Int.le_refl _
 | false=>
  simp only[cond_false];refine⟨?_,?_,?_⟩
  ·intro y a;simp only[List.mem_append,List.mem_singleton] at a;rcases a with a|rfl
   ·exact h.rng y a
   ·exact⟨f,g⟩
  ·intro i;obtain⟨d,e⟩:=h.best i;exact⟨by simp[d],e⟩
  ·intro y a c;simp only[List.mem_append,List.mem_singleton] at a;rcases a with a|rfl
   ·exact h.least y a c
   ·unfold aS at b;rw[c] at b;simp only[Bool.true_and,Bool.or_eq_false_iff,Bool.not_eq_false',Bool.and_eq_false_iff,decide_eq_false_iff_not,beq_eq_false_iff_ne] at b;obtain⟨⟨d,e⟩,k⟩:=b;exact⟨d,by show s.n<=(V y).1;omega⟩
theorem gr(V:Int->Int×Bool)(x y:Int)(s:GS)(h:y∈s.asked):y∈(gask V x s).asked:=by rw [bf];simp [h]
theorem oB(V:Int->Int×Bool)(x:Int)(s:GS):x∈(gask V x s).asked:=by rw [bf];simp
theorem vW(V:Int->Int×Bool)(j:Nat):j<=6->CA V (giter V j).2/\13∈(giter V j).2.asked/\21∈(giter V j).2.asked:=by
 induction j with
 | zero=>
  intro _;refine⟨jd V 21 _ (jd V 13 _ ⟨fun x d=>(by simp at d),fun h=>(by cases h),fun x d=>(by simp at d)⟩ (by decide) (by decide)) (by decide) (by decide),gr V 21 13 _ (oB V 13 _),oB V 21 _⟩
 | succ j e=>
  intro f;obtain⟨c,a,b⟩:=e (by omega);obtain⟨k,-,-⟩:=fD V j (by omega);have g:=gXY j (by omega);have i:0<=gX (j+1)/\gX (j+1)<=gD j:=by match j,f with|0,_|1,_|2,_|3,_|4,_|5,_=>decide
  unfold giter qY;generalize giter V j=r at *;cases gm (V (r.1+gX j)) (V (r.1+gY j))
  ·simp only[cond_false,gp];split
   ·exact⟨c,a,b⟩
   ·exact⟨jd V _ _ c (by omega) (by omega),gr V _ _ _ a,gr V _ _ _ b⟩
  ·simp only[cond_true,kA];split
   ·exact⟨c,a,b⟩
   ·exact⟨jd V _ _ c (by omega) (by omega),gr V _ _ _ a,gr V _ _ _ b⟩
theorem jc(V:Int->Int×Bool):CA V (gfin V)/\13∈(gfin V).asked/\21∈(gfin V).asked:=vW V 6 (by decide)
def ovV(O:Int->El×Int)(x:Int):Int×Bool:=((O x).1.tr,(O x).2==0)
def emptyB(O:Int->El×Int)(l:List Int):Bool:=l.any fun x=>(O x).2==3
def dJ(out x:El):El:=if x.tr<out.tr then x else out
def gI(e:El)(O:Int->El×Int)(more:List El):List El:=(e :: if (gfin (ovV O)).ok then [(O (gfin (ovV O)).w).1] else [])++more
def foundE(e:El)(O:Int->El×Int)(more:List El):El×Int:=if emptyB O (gfin (ovV O)).asked then (El.zero,3) else ((gI e O more).foldl dJ e,0)
theorem vz(l:List El)(e:El):(l.foldl dJ e=e∨l.foldl dJ e∈l)/\(l.foldl dJ e).tr<=e.tr/\∀x∈l,(l.foldl dJ e).tr<=x.tr:=by
 induction l generalizing e with
 | nil=>exact⟨.inl rfl,Int.le_refl _,fun x b=>by cases b⟩
 | cons a l d=>
  rw[List.foldl_cons];obtain⟨c,i,g⟩:=d (dJ e a)
  have f:(dJ e a=e∨dJ e a=a)/\(dJ e a).tr<=e.tr/\(dJ e a).tr<=a.tr:=by
   unfold dJ;split
   ·exact⟨.inr rfl,by omega,Int.le_refl _⟩
   ·exact⟨.inl rfl,Int.le_refl _,by omega⟩
  refine⟨?_,by omega,?_⟩
  ·rcases c with c|c
   ·rw[c];rcases f.1 with h|h
    ·exact .inl h
    ·exact .inr (by rw[h];simp)
   ·exact .inr (by simp[c])
  ·intro x b;simp only[List.mem_cons] at b;rcases b with rfl|b
   ·omega
   ·exact g x b
theorem found_cases(e:El)(O:Int->El×Int)(a:List El):((∃x,0<=x/\x<=34/\(O x).2=3)/\foundE e O a=(El.zero,3))∨
   ∃g,foundE e O a=(g,0)/\(g=e∨(∃x,0<=x/\x<=34/\O x=(g,0))∨g∈a)/\g.tr<=e.tr/\(∀f∈a,g.tr<=f.tr)/\∀x,(x=13∨x=21)->(O x).2=0->g.tr<=(O x).1.tr:=by
 obtain⟨d,m,i⟩:=jc (ovV O);unfold foundE;cases hb:emptyB O (gfin (ovV O)).asked with
 | true=>
  left;unfold emptyB at hb;rw[List.any_eq_true] at hb;obtain⟨x,b,q⟩:=hb;have:=d.rng x b;exact⟨⟨x,this.1,this.2,by simpa using q⟩,rfl⟩
 | false=>
  right;refine⟨_,rfl,?_⟩;obtain⟨c,v,p⟩:=vz (gI e O a) e
  have k:∀x∈gI e O a,x=e∨(∃y,0<=y/\y<=34/\O y=(x,0))∨x∈a:=by
   intro x b;unfold gI at b;simp only[List.mem_append,List.mem_cons] at b;rcases b with (b|b)|b
   ·exact .inl b
   ·split at b
    ·rename_i j;simp only[List.mem_singleton] at b;obtain⟨h,l⟩:=d.best j;have:=d.rng _ h;refine .inr (.inl ⟨_,this.1,this.2,?_⟩);have o:((O (gfin (ovV O)).w).2==0)=true:=congrArg Prod.snd l;exact Prod.ext b.symm (by simpa using o)
    ·cases b
   ·exact .inr (.inr b)
  refine⟨?_,v,?_,?_⟩
  ·rcases c with c|c
   ·exact .inl c
   ·exact k _ c
  ·intro f r;exact p f (by unfold gI;simp[r])
  ·intro x b u;have s:x∈(gfin (ovV O)).asked:=by rcases b with rfl|rfl;exact m;exact i
   obtain⟨h,l⟩:=d.least x s (by unfold ovV;simp[u]);obtain⟨o,t⟩:=d.best h;have z:=p (O (gfin (ovV O)).w).1 (by unfold gI;simp[h]);have B:(O (gfin (ovV O)).w).1.tr=(gfin (ovV O)).n:=congrArg Prod.fst t;have A:(gfin (ovV O)).n<=(O x).1.tr:=l;omega
def gfuseE(e f:El):El×Int:=if e.may=true/\f.may=true then foundE e (fuseE e f) [f] else (El.zero,1)
def gcutE(e:El)(s:St):El×Int:=if e.may=true/\s.may=true then foundE e (cutE e s) [] else (El.zero,1)
theorem Blk.side{t u a:TypeId}{B g:Nat}{w c:World}{d:Array Value}(h:Blk w g d a)(i:aT t u B w c)(f:a≠t)(e:a≠u):Blk c g d a:=
 (i.2.2.2.2 g h.lt (fun _ _=>⟨fun b=>Blk.ne h b f rfl,fun b=>Blk.ne h b e rfl⟩)).trans h
theorem Below.side{t u:TypeId}{B b:Nat}{a w d:World}(i:b<=a.heap.size)(h:Below b a w)(c:aT t u B w d)(g:b<=B):Below b a d:=
 ⟨c.1.trans h.os,c.2.1.trans h.tape,c.2.2.1.trans h.output,Nat.le_trans h.size c.2.2.2.1,fun k e=>by
  rw[c.2.2.2.2 k (by have:=h.size;omega) (fun f=>by omega)];exact h.block k e⟩
theorem aX.below{t:TypeId}{w w':World}(h:zB w w'):aX t w w':=⟨h.size,fun _ _ hb=>hb.keep h⟩
theorem aX.setCell{t a:TypeId}{w w':World}(h:aX t w w'){g:Nat}{c:Array Value}(d:Blk w' g c a)(f:a≠t)(i:Nat)(v:Value):aX t w (w'.setCell ⟨g,i,none⟩ v):=
 ⟨by simpa using h.1,fun k b hb=>(h.2 k b hb).ac (fun e=>Blk.ne d (h.2 k b hb) f e.symm) _⟩
theorem aw{w:World}{b:Nat}{c:Array Value}{t:TypeId}(h:Blk w b c t):b<w.heap.size/\(∀o,w.cell? ⟨b,o,none⟩=c[o]?)/\(∀o,w.frozen? ⟨b,o,none⟩=false)/\w.row? b 0 c.size=some c:=
 ⟨h.lt,h.at,h.frozen,h.row?_all _ rfl⟩
theorem FD(x y a b d j l n p m k:Int)(g h:Nat)(w:World)(z:Blk w g #[x,y,a,b,d] 35)(v:Blk w h #[j,l,n,p,m] 35):zR 90 #[k,.pointer (some ⟨g,0,none⟩),.pointer (some ⟨h,0,none⟩)] w (.tuple #[elV (fuseE ⟨x,y,a,b,d⟩ ⟨j,l,n,p,m⟩ k).1,.int .i64 (fuseE ⟨x,y,a,b,d⟩ ⟨j,l,n,p,m⟩ k).2]):=by
 obtain⟨⟨C,u,A,t,B⟩,f,s⟩:∃o f,fuseE ⟨x,y,a,b,d⟩ ⟨j,l,n,p,m⟩ k=(o,f):=⟨_,_,rfl⟩;have r:=Lh s;obtain⟨F,E,J,-⟩:=aw z;obtain⟨H,G,I,-⟩:=aw v;clear s;go_enter func90,ntmps90;go_wp2_with fail;refine(D0 _ _ _ _ _ _ _ _ _ _ _ _ _ _ _ _ _ r.out _).mono ?_;rintro e D ⟨rfl,i⟩;have c:=i.size;(try simp at c);have q:=bq i (w.heap.size);go_wp2_with fail;exact rT 5 #[.int .i64 C,.int .i64 u,.int .i64 A,.int .i64 t,.int .i64 B] (.int .i64 f) ⟨by rw[r.out],ad⟩
theorem FE(x y a b d n l p j m q k:Int)(g h:Nat)(w:World)(A:Blk w g #[x,y,a,b,d] 35)(z:Blk w h #[n,l,p,j,m,q] 431):zR 353 #[k,.pointer (some ⟨g,0,none⟩),.pointer (some ⟨h,0,none⟩)] w (.tuple #[elV (cutE ⟨x,y,a,b,d⟩ ⟨n,l,p,j,m,q⟩ k).1,.int .i64 (cutE ⟨x,y,a,b,d⟩ ⟨n,l,p,j,m,q⟩ k).2]):=by
 obtain⟨⟨D,v,B,u,C⟩,f,t⟩:∃o f,cutE ⟨x,y,a,b,d⟩ ⟨n,l,p,j,m,q⟩ k=(o,f):=⟨_,_,rfl⟩;have s:=Lh t;obtain⟨G,F,K,-⟩:=aw A;obtain⟨I,H,J,-⟩:=aw z;clear t;go_enter func353,ntmps353;go_wp2_with fail;refine(FM _ _ _ _ _ _ _ _ _ _ _ _ _ _ _ _ _ _ s.out _).mono ?_;rintro e E ⟨rfl,i⟩;have c:=i.size;(try simp at c);have r:=bq i (w.heap.size);go_wp2_with fail;exact rT 5 #[.int .i64 D,.int .i64 v,.int .i64 B,.int .i64 u,.int .i64 C] (.int .i64 f) ⟨by rw[s.out],ad⟩
theorem Gv(h:FuncId)(b:Array Value)(x:Int)(o:El)(r:Int)(q:Bool)(v m:Nat)(w:World)(F:∀c w,Sem.run prog (callFunc h c) w=.ok (.enter h c) w)(p:∀g,zB w g->Calls prog h (#[.int .i64 x]++b) g fun e j=>e=.returned (.tuple #[elV o,r])/\zB g j)(n:Blk w v #[.func (.func h) #[] b] 165)(k:Blk w m #[q] 4):Calls prog 158 #[x,.pointer (some ⟨v,0,none⟩),.pointer (some ⟨m,0,none⟩)] w fun e g=>e=.returned (.tuple #[.int .i64 o.tr,.bool (r==0)])/\
   ∃f,zB w f/\Below f.heap.size (f.setCell ⟨m,0,none⟩ (.bool (q||r==3))) g:=by
 obtain⟨M,C,I,B,J⟩:=o;obtain⟨t,l⟩:∃t,El.tr ⟨M,C,I,B,J⟩=t:=⟨_,rfl⟩;have u:=Lh l;have A:=Lh p;obtain⟨D,z,L,-⟩:=aw n;obtain⟨H,E,K,-⟩:=aw k;rw[l];clear p l;go_enter func158,ntmps158;go_wp2_with fail;refine(A.out _ (Below.refl _ _)).mono ?_;rintro e f ⟨rfl,a⟩;have s:=n.keep a;have y:=k.keep a;obtain⟨O,N,R,-⟩:=aw s;obtain⟨Q,S,P,-⟩:=aw y;clear n k s y D z L H E K;cases q with
 | true=>
  go_wp2_with fail;refine(gO _ _ _ _ _ _ u.out _).mono ?_;rintro e G ⟨rfl,d⟩;have i:=d.size;(try simp at i);go_wp2_with fail;go_ret2
  exact⟨rfl,f,a,by simp only[Bool.true_or];exact(show Below _ _ _ from ad)⟩
 | false=>
  go_wp2_with fail;refine(gO _ _ _ _ _ _ u.out _).mono ?_;rintro e G ⟨rfl,d⟩;have i:=d.size;(try simp at i);go_wp2_with fail;go_ret2
  exact⟨rfl,f,a,by simp only[Bool.false_or];exact(show Below _ _ _ from ad)⟩
def wQ(w0:World)(x y a b d:Int)(fn:FuncId)(caps:Array Value)(O:Int->El×Int)(l:List Int)(W:World):Prop:=
 zB w0 W/\Blk W w0.heap.size #[x,y,a,b,d] 35/\Blk W (w0.heap.size+1) #[.func (.func fn) #[] caps] 165/\
  Blk W (w0.heap.size+1+1) #[.int .i64 0,.int .i64 0,.int .i64 0,.int .i64 0,.int .i64 0] 35/\Blk W (w0.heap.size+1+1+1) #[.bool (emptyB O l)] 4
theorem uC(g:World)(x y a b d:Int)(n:FuncId)(i:Array Value)(O:Int->El×Int)(t:∀m w,Sem.run prog (callFunc n m) w=.ok (.enter n m) w)(A:∀(k:Int) (j:World),0<=k->k<=34->zB g j->Calls prog n (#[.int .i64 k]++i) j fun e r=>e=.returned (.tuple #[elV (O k).1,.int .i64 (O k).2])/\zB j r)(l:List Int)(k:Int)(w:World)(G:0<=k)(F:k<=34)(h:wQ g x y a b d n i O l w):Calls prog 158 (#[.int .i64 k]++#[.pointer (some ⟨g.heap.size+1,0,none⟩),.pointer (some ⟨g.heap.size+1+1+1,0,none⟩)]) w fun e j=>e=.returned (.tuple #[.int .i64 (ovV O k).1,.bool (ovV O k).2])/\
   wQ g x y a b d n i O (l++[k]) j/\aX 290 w j/\aX 292 w j:=by
 obtain⟨q,I,z,E,u⟩:=h;refine Calls.mono (Gv n i k (O k).1 (O k).2 (emptyB O l) (g.heap.size+1) (g.heap.size+1+1+1) w t (fun j B=>A k j G F (q.trans (B.mono q.size))) z u) ?_;rintro e j ⟨H,p,f,o⟩;have s:=u.keep f;have D:=s.ab 0 (.bool (emptyB O l||(O k).2==3));have C:(p.setCell ⟨g.heap.size+1+1+1,0,none⟩ (.bool (emptyB O l||(O k).2==3))).heap.size=p.heap.size:=by simp
 have c:Below (p.setCell ⟨g.heap.size+1+1+1,0,none⟩ (.bool (emptyB O l||(O k).2==3))).heap.size (p.setCell ⟨g.heap.size+1+1+1,0,none⟩ (.bool (emptyB O l||(O k).2==3))) j:=by rw[C];exact o
 have v:=q.trans (f.mono q.size);refine⟨H,⟨?_,?_,?_,?_,?_⟩,?_,?_⟩
 ·exact(v.setCell (show g.heap.size<=(⟨g.heap.size+1+1+1,0,none⟩:Addr).block by simp only;omega) _).trans (o.mono v.size)
 ·exact(((I.keep f).ac (a:=⟨g.heap.size+1+1+1,0,none⟩) (by simp only;omega) _).keep c)
 ·exact(((z.keep f).ac (a:=⟨g.heap.size+1+1+1,0,none⟩) (by simp only;omega) _).keep c)
 ·exact(((E.keep f).ac (a:=⟨g.heap.size+1+1+1,0,none⟩) (by simp only;omega) _).keep c)
 ·refine Blk.of_eq (D.keep c) ?_;unfold emptyB;simp
 ·exact((aX.below f).setCell s (by decide) 0 _).trans (aX.below c)
 ·exact((aX.below f).setCell s (by decide) 0 _).trans (aX.below c)
theorem yv:(prog.info? 35).map (fun i=>(i.zero,i.size,i.bytes))=some (some (.agg #[.int .i64 0,.int .i64 0,.int .i64 0,.int .i64 0,.int .i64 0]),5,40):=by kernel_rfl
def elc(e:El):List Value:=[.int .i64 e.x,.int .i64 e.y,.int .i64 e.a,.int .i64 e.b,.int .i64 e.d]
theorem pj{w:World}{g c:Nat}{x y a b d:Int}(h:Blk w g #[x,y,a,b,d] 35)(e:c<=g):w.ownsRow c 35 5 (.slice (some ⟨g,0,none⟩) 1 1) 1 (elc ⟨x,y,a,b,d⟩):=
 ⟨rfl,.inr ⟨g,1,_,rfl,e,h,Nat.le_refl _,by decide,rfl,rfl⟩⟩
theorem lj(e:El):∀u∈elc e,u.oneCell'=true:=by
 intro u a;unfold elc at a;simp only[List.mem_cons,List.not_mem_nil,or_false] at a;rcases a with rfl|rfl|rfl|rfl|rfl<;>rfl
theorem wP(g j:Nat):(⟨g,0,none⟩:Addr).add j=⟨g,j,none⟩:=by
 unfold Addr.add;split
 ·rename_i h;subst h;rfl
 ·simp
theorem jg{w:World}{g:Nat}{e:El}(h:Blk w g #[.int .i64 e.x,.int .i64 e.y,.int .i64 e.a,.int .i64 e.b,.int .i64 e.d] 35):∀j u,(elc e)[j]?=some u->w.cell? ((⟨g,0,none⟩:Addr).add j)=some u:=by
 intro j u c;rw[wP,h.at j];match j,c with
 | 0,c|1,c|2,c|3,c|4,c=>simpa [elc] using c
theorem hZ{w:World}{b n g c:Nat}{d:List Value}(h:w.ownsRow b 35 5 (.slice (some ⟨g,0,none⟩) n c) n d):∃a,Blk w g a 35/\n*5<=a.size/\a.toList.take (n*5)=d:=by
 rcases h.2 with ⟨h,-⟩|⟨l,e,a,h,m,f,i,-,k,j⟩
 ·cases h
 ·injection h with h _ _;injection h with h;injection h with h _ _;subst h
  exact⟨a,f,by rw[k];exact Nat.mul_le_mul_right 5 i,j⟩
theorem mT{w:World}{g b:Nat}{c d:Array Value}{t:TypeId}(h:Blk w g c t)(a:Blk w b d t)(e:c.size≠d.size):¬g=b:=by
 rintro rfl;unfold Blk at h a;rw[h] at a;injection a with a;injection a with a _
 subst a;exact e rfl
theorem gW(L:List El)(k:Nat)(e a:El)(h:L[k]?=some a):(L.take (k+1)).foldl dJ e=dJ ((L.take k).foldl dJ e) a:=by
 rw[List.take_add_one,h,List.foldl_append];rfl
theorem jo(L:List El)(b:Array Value)(h:b.toList.take (L.length*5)=L.flatMap elc):∀k e,L[k]?=some e->∀j,j<5->b[k*5+j]? = (elc e)[j]?:=by
 intro k e c j g;have d:k<L.length:=(List.getElem?_eq_some_iff.1 c).1
 have f:b[k*5+j]? = (L.flatMap elc)[k*5+j]?:=by
  rw[<-h,List.getElem?_take,if_pos (by omega)];simp
 rw[f];clear h f d;induction L generalizing k with
 | nil=>simp at c
 | cons a L i=>
  rw[List.flatMap_cons];cases k with
  | zero=>
   simp only[List.getElem?_cons_zero,Option.some.injEq] at c;subst c;rw[Nat.zero_mul,Nat.zero_add,List.getElem?_append_left (by show j<5;exact g)]
  | succ k=>
   rw[List.getElem?_append_right (by show 5<=(k+1)*5+j;omega)];have:(k+1)*5+j-(elc a).length=k*5+j:=by show(k+1)*5+j-5=_;omega
   rw[this];exact i k (by simpa using c)
theorem fw{w:World}{a b n:Nat}{e:TypeId}{v:Value}{f:List Value}(h:w.ownsRow a e b v n f)(j:0<n):∃g c,v=.slice (some ⟨g,0,none⟩) n c:=by
 rcases h.2 with ⟨-,h⟩|⟨k,d,i,h,-⟩
 ·omega
 ·exact⟨_,_,h⟩
theorem Blk.grown{w b:World}{g:Nat}{t:TypeId}{c:Array Value}{a:Option Nat}(h:Blk w g c t)(d:w.grownBy b a)(e:a≠some g):Blk b g c t:=(d.block g h.lt (Ne.symm e)).trans h
theorem Below.grown{B:Nat}{a w d:World}{b:Option Nat}(j:B<=a.heap.size)(h:Below B a w)(c:w.grownBy d b)(f:∀g,b=some g->B<=g):Below B a d:=
 ⟨c.os.trans h.os,c.tape.trans h.tape,c.output.trans h.output,Nat.le_trans h.size c.size,fun k i=>by
  rw[c.block k (by have:=h.size;omega) (fun e=>by have:=f k e.symm;omega)];exact h.block k i⟩
theorem Blk.keep'{a w:World}{g:Nat}{t:TypeId}{b:Array Value}(h:Blk a g b t)(c:zB a w):Blk w g b t:=h.keep c
theorem Bx(x y a b d:Int)(fn:FuncId)(B:Array Value)(O:Int->El×Int)(f:El)(gm:Nat)(w:World)(bm:Blk w gm #[.int .i64 f.x,.int .i64 f.y,.int .i64 f.a,.int .i64 f.b,.int .i64 f.d] 35)(g7:∀a8 w,Sem.run prog (callFunc fn a8) w=.ok (.enter fn a8) w)(hO:∀(k:Int) (w':World),0<=k->k<=34->zB w w'->Calls prog fn (#[.int .i64 k]++B) w' fun e f7=>e=.returned (.tuple #[elV (O k).1,.int .i64 (O k).2])/\zB w' f7):zR 89 #[elC x y a b d,.func (.func fn) #[] B,.slice (some ⟨gm,0,none⟩) 1 1] w (.tuple #[elV (foundE ⟨x,y,a,b,d⟩ O [f]).1,.int .i64 (foundE ⟨x,y,a,b,d⟩ O [f]).2]):=by
 have HO:=Lh hO;clear hO;obtain⟨i0,hi,d6,c5,b7⟩:=info_parts yv;go_enter func89,ntmps89;go_wp2_with fail;obtain⟨W1,e4⟩:∃W1,W1=(((w.alloc (Obj.cells #[x,y,a,b,d] 35)).alloc (Obj.cells #[.func (.func fn) #[] B] 165)).alloc (Obj.cells #[.int .i64 0,.int .i64 0,.int .i64 0,.int .i64 0,.int .i64 0] 35)).alloc (Obj.cells #[false] 4):=⟨_,rfl⟩;rw[<-e4]
 have hI:wQ w x y a b d fn B O [] W1:=by
  rw[e4];refine⟨(show Below _ _ _ from ad),?_,?_,?_,?_⟩
  ·exact(((Blk.new _ _ _).alloc _).alloc _).alloc _
  ·exact((Blk.new' _ _ _ (by simp)).alloc _).alloc _
  ·exact(Blk.new' _ _ _ (by simp)).alloc _
  ·exact Blk.new' _ _ _ (by simp)
 have b5:w.heap.size<=W1.heap.size:=hI.1.size;clear e4
 have M:=Lh (zu 158 #[.pointer (some ⟨w.heap.size+1,0,none⟩),.pointer (some ⟨w.heap.size+1+1+1,0,none⟩)] (ovV O) (wQ w x y a b d fn B O) W1 (by intro a8 w;rfl)
  (fun l w1 w2 hs h=>⟨Below.side (Nat.le_refl _) h.1 hs b5,h.2.1.side hs (by decide) (by decide),h.2.2.1.side hs (by decide) (by decide),h.2.2.2.1.side hs (by decide) (by decide),h.2.2.2.2.side hs (by decide) (by decide)⟩)
  (fun l k w1 _ h0 h1 h=>uC w x y a b d fn B O g7 HO.out l k w1 h0 h1 h) hI)
 obtain⟨e0,-⟩:=jc (ovV O);have a7:=e0.best;have a9:=e0.rng;have EV:Hid (foundE ⟨x,y,a,b,d⟩ O [f]=if emptyB O (gfin (ovV O)).asked then (El.zero,3) else ((gI ⟨x,y,a,b,d⟩ O [f]).foldl dJ ⟨x,y,a,b,d⟩,0)):=rfl;have EC:Hid (gI ⟨x,y,a,b,d⟩ O [f]=(⟨x,y,a,b,d⟩ :: if (gfin (ovV O)).ok then [(O (gfin (ovV O)).w).1] else [])++[f]):=rfl;generalize gfin (ovV O)=s at M a7 a9 EV EC;obtain⟨d5,gw,gn,e8⟩:=s;simp only at M a7 a9 EV EC;clear e0 hI b5;obtain⟨em,c9⟩:∃em,emptyB O d5=em:=⟨_,rfl⟩;rw[c9] at EV;refine M.out.mono ?_;rintro e w1 ⟨rfl,⟨hb,b3,b4,b6,b8⟩,b5⟩;rw[c9] at b8;clear M c9;obtain⟨y3,c3,f3,-⟩:=aw b3;obtain⟨y4,c4,f4,-⟩:=aw b4;obtain⟨y6,c6,f6,-⟩:=aw b6;obtain⟨y8,c8,f8,-⟩:=aw b8;cases em with
 | true=>
  go_wp2_with fail;exact rT 5 z5 (.int .i64 3) ⟨by rw[EV.out];rfl,ad⟩
 | false=>
  have d7:e8=true->0<=gw/\gw<=34:=fun h=>a9 _ (a7 h).1
  -- TAIL
  cases e8 with
  | false=>
   go_wp2_with (at_builtin;refine wpList_append_own _ rfl _ _ 220 rfl w.heap.size 35 i0 (.agg #[.int .i64 0,.int .i64 0,.int .i64 0,.int .i64 0,.int .i64 0]) 5 40 underlying220 hi d6 c5 b7 rfl (by decide) _ 1 _ rfl (pj (((Blk.new w1 _ _).alloc _)) (by omega)) ⟨gm,0,none⟩ 1 1 (elc f) rfl rfl (jg (((bm.keep' hb).alloc _).alloc _)) (lj _) (by unfold maxLen;omega) (by omega) (by have:=hb.size;simp;omega) ?_)
   intro v3 w5 A c _;obtain⟨Z,f5,rfl⟩:=fw A (by omega);have BO:=(Blk.new' (b:=w1.heap.size+1) _ _ _ (by simp)).grown c (by simp[Value.ownBlock]);have B6:=((b6.alloc _).alloc _).grown c (by simp[Value.ownBlock];omega);have Q:=Below.grown (Nat.le_refl _) ((hb.alloc hb.size _).alloc (by have:=hb.size;simp;omega) _) c (fun g hg=>by simp[Value.ownBlock] at hg;have:=hb.size;omega);have zz:=y6;clear c b3 b4 b6 b8 y3 c3 f3 y4 c4 f4 y6 c6 f6 y8 c8 f8;have zq:w.heap.size+1+1<w1.heap.size+1:=by omega
   clear zz;generalize w1.heap.size+1=go at BO zq ⊢;obtain⟨D,u,X,z⟩:=hZ A;have hX:∀k e,([⟨x,y,a,b,d⟩,f]:List El)[k]?=some e->∀j,j<5->D[k*5+j]? = (elc e)[j]?:=jo [⟨x,y,a,b,d⟩,f] D z;have v:=mT u BO (by intro h;rw[h] at X;simp at X);have HG:=Lh u;have a4:=Lh BO;have a6:=Lh B6;have HB:=Lh Q;have zs:=Q.size;have HX:=Lh hX;clear A z u BO B6 Q X hX a7 a9 d7;go_wp2_with fail;go_loopw [44] (fun ti wr=>∃(k:Nat) (o:El),k<=2/\ti=.int .i64 k/\o=(([⟨x,y,a,b,d⟩,f]:List El).take k).foldl dJ ⟨x,y,a,b,d⟩/\Hid (Blk wr (go) #[.int .i64 o.x,.int .i64 o.y,.int .i64 o.a,.int .i64 o.b,.int .i64 o.d] 35)/\Hid (Blk wr Z D 35)/\Hid (Blk wr (w.heap.size+1+1) #[.int .i64 0,.int .i64 0,.int .i64 0,.int .i64 0,.int .i64 0] 35)/\Hid (zB w wr)) (fun ti _=>2-(intOf ti).toNat)
   case atStart=>exact⟨0,⟨x,y,a,b,d⟩,by omega,rfl,rfl,a4.out,HG.out,a6.out,HB.out⟩
   case round=>
    obtain⟨k,⟨P,F,J,L,K⟩,hk,rfl,hq,RO,T,R6,RB⟩:=hrel;simp only at RO;have e5:=Lh hq;clear a4 HG a6 HB;have V:=RB.out;have zr:=V.size;by_cases e1:k<2
    ·obtain⟨⟨N,E,H,G,I⟩,he⟩:∃e,([⟨x,y,a,b,d⟩,f]:List El)[k]?=some e:=⟨_,List.getElem?_eq_getElem (by simpa using e1)⟩;have m0:wr.cell? ⟨Z,k*5,none⟩=some (.int .i64 N):=(T.out.at (k*5+0)).trans (HX.out k _ he 0 (by decide));have m1:wr.cell? ⟨Z,k*5+1,none⟩=some (.int .i64 E):=(T.out.at (k*5+1)).trans (HX.out k _ he 1 (by decide));have m2:wr.cell? ⟨Z,k*5+2,none⟩=some (.int .i64 H):=(T.out.at (k*5+2)).trans (HX.out k _ he 2 (by decide));have m3:wr.cell? ⟨Z,k*5+3,none⟩=some (.int .i64 G):=(T.out.at (k*5+3)).trans (HX.out k _ he 3 (by decide));have m4:wr.cell? ⟨Z,k*5+4,none⟩=some (.int .i64 I):=(T.out.at (k*5+4)).trans (HX.out k _ he 4 (by decide));have C:=gW ([⟨x,y,a,b,d⟩,f]:List El) k ⟨x,y,a,b,d⟩ _ he;rw[<-hq] at C;have k1:(k:Int)<2:=by omega
     have k2:(0:Int)<=k:=by omega
     obtain⟨t1,U⟩:∃t,El.tr ⟨N,E,H,G,I⟩=t:=⟨_,rfl⟩;obtain⟨t2,R⟩:∃t,El.tr ⟨P,F,J,L,K⟩=t:=⟨_,rfl⟩;have T1:=Lh U;have T2:=Lh R;rw[show dJ ⟨P,F,J,L,K⟩ ⟨N,E,H,G,I⟩=if El.tr ⟨N,E,H,G,I⟩<El.tr ⟨P,F,J,L,K⟩ then ⟨N,E,H,G,I⟩ else ⟨P,F,J,L,K⟩ from rfl,U,R] at C;have a5:=Lh C;clear C he U R hq;go_wp2_with fail;obtain⟨Y,m⟩:∃Y,Y=wr.alloc (Obj.cells #[N,E,H,G,I] 35):=⟨_,rfl⟩;rw[<-m];have W:Hid (Blk Y wr.heap.size #[N,E,H,G,I] 35):=by rw[m];exact Blk.new _ _ _
     have S:Hid (Blk Y (go) #[P,F,J,L,K] 35):=by rw[m];exact RO.out.alloc _
     have SG:Hid (Blk Y Z D 35):=by rw[m];exact T.out.alloc _
     have S6:Hid (Blk Y (w.heap.size+1+1) #[.int .i64 0,.int .i64 0,.int .i64 0,.int .i64 0,.int .i64 0] 35):=by rw[m];exact R6.out.alloc _
     have SB:Hid (zB w Y):=by rw[m];exact V.alloc zr _
     have g5:=RO.out.lt;have g0:=R6.out.lt;clear m m0 m1 m2 m3 m4 RO T R6 RB V;have c0:=cell_regrown (W.out.cell (i:=0) rfl);have d0:=cell_regrown (S.out.cell (i:=0) rfl);have c1:=cell_regrown (W.out.cell (i:=1) rfl);have d1:=cell_regrown (S.out.cell (i:=1) rfl);have c2:=cell_regrown (W.out.cell (i:=2) rfl);have d2:=cell_regrown (S.out.cell (i:=2) rfl);have c3:=cell_regrown (W.out.cell (i:=3) rfl);have d3:=cell_regrown (S.out.cell (i:=3) rfl);have c4:=cell_regrown (W.out.cell (i:=4) rfl);have d4:=cell_regrown (S.out.cell (i:=4) rfl);refine wp_region_quiet_below (by kernel_rfl) (by kernel_rfl) ?_;repeat (go_big_quiet_step (exact Calls.regrown_of (gO _ _ _ _ _ _ (by first|with_reducible exact T1.out|with_reducible exact T2.out) _)))
     refine wpQuiet_nil ?_;intro w7 b0;have p:=ay b0;clear b0 c0 c1 c2 c3 c4 d0 d1 d2 d3 d4;have UX:=W.out.keep p;have UO:=S.out.keep p;have UG:=SG.out.keep p;have U6:=S6.out.keep p;have UB:=SB.out.trans (p.mono SB.out.size);obtain⟨d9,c7,d8,-⟩:=aw UX;obtain⟨e3,e2,b9,-⟩:=aw UO;clear W S SG S6 SB p;by_cases ht:t1<t2
     ·go_wp2_with fail;go_roundw
      case rel=>
       refine⟨k+1,⟨N,E,H,G,I⟩,by omega,by go_num,by rw[a5.out,if_pos ht],?_,?_,?_,?_⟩
       ·exact((((UO.ab 0 _).ab 1 _).ab 2 _).ab 3 _).ab 4 _
       ·exact(((((UG.ac (a:=⟨go,0,none⟩) (v) _).ac (a:=⟨go,1,none⟩) (v) _).ac (a:=⟨go,2,none⟩) (v) _).ac (a:=⟨go,3,none⟩) (v) _).ac (a:=⟨go,4,none⟩) (v) _)
       ·exact(((((U6.ac (a:=⟨go,0,none⟩) (by simp only;omega) _).ac (a:=⟨go,1,none⟩) (by simp only;omega) _).ac (a:=⟨go,2,none⟩) (by simp only;omega) _).ac (a:=⟨go,3,none⟩) (by simp only;omega) _).ac (a:=⟨go,4,none⟩) (by simp only;omega) _)
       ·exact(show Below _ _ _ from ad)
      case measure=>simp[intOf];omega
     ·go_wp2_with fail;go_roundw
      case rel=>exact⟨k+1,⟨P,F,J,L,K⟩,by omega,by go_num,by rw[a5.out,if_neg ht],UO,UG,U6,UB⟩
      case measure=>simp[intOf];omega
    ·obtain rfl:k=2:=by omega
     have hF:Hid (foundE ⟨x,y,a,b,d⟩ O [f]=(⟨P,F,J,L,K⟩,0)):=by show _=_;rw[EV.out,EC.out,e5.out];rfl
     obtain⟨d9,c7,d8,-⟩:=aw RO.out;obtain⟨e3,e2,b9,-⟩:=aw R6.out;clear EV EC hq;go_wp2_with fail;exact rT 5 #[.int .i64 P,.int .i64 F,.int .i64 J,.int .i64 L,.int .i64 K] (.int .i64 0) ⟨by rw[hF.out],ad⟩
  | true=>
   obtain⟨h0,h1⟩:=d7 rfl;obtain⟨⟨ox,oy,oa,ob,od⟩,r,ho⟩:∃o r,O gw=(o,r):=⟨_,_,rfl⟩;have HQ:=HO.out gw (w1.alloc (Obj.cells #[x,y,a,b,d] 35)) h0 h1 (hb.alloc hb.size _);rw[ho] at HQ EC
   -- S11
   have f0:=Lh HQ;clear HQ ho;go_wp2_with fail
   -- S13
   refine f0.out.mono ?_;rintro e w2 ⟨rfl,a1⟩
   -- S14
   have f2:=a1.size;simp at f2;have e9:=(Blk.new w1 #[.int .i64 x,.int .i64 y,.int .i64 a,.int .i64 b,.int .i64 d] 35).keep a1;have e6:=(b3.alloc (Obj.cells #[x,y,a,b,d] 35)).keep a1;have f1:=(b6.alloc (Obj.cells #[x,y,a,b,d] 35)).keep a1;have a0:=(hb.alloc hb.size (Obj.cells #[x,y,a,b,d] 35)).trans (a1.mono (by have:=hb.size;simp;omega));have zb:=hb.size;have f9:=y6;clear a1 b3 b4 b6 b8 y3 c3 f3 y4 c4 f4 y6 c6 f6 y8 c8 f8 hb;obtain⟨y3,c3,f3,-⟩:=aw e6
   -- S15
   go_wp2_with (at_builtin;refine wpList_append_own _ rfl _ _ 220 rfl w.heap.size 35 i0 (.agg #[.int .i64 0,.int .i64 0,.int .i64 0,.int .i64 0,.int .i64 0]) 5 40 underlying220 hi d6 c5 b7 rfl (by decide) _ 1 _ rfl (pj ((e9.alloc _).alloc _) (by omega)) ⟨w2.heap.size+1,0,none⟩ 1 1 (elc ⟨ox,oy,oa,ob,od⟩) rfl rfl (jg (Blk.new' _ _ _ (by simp))) (lj _) (by unfold maxLen;omega) (by omega) (by simp;omega) ?_)
   -- S12
   intro v4 w3 n q _;obtain⟨g4,g9,rfl⟩:=fw n (by omega);have e7:=((e6.alloc _).alloc _).grown q (by simp[Value.ownBlock];omega);have b2:=((f1.alloc _).alloc _).grown q (by simp[Value.ownBlock];omega);have a2:=Below.grown (Nat.le_refl _) ((a0.alloc a0.size _).alloc (by have:=a0.size;simp;omega) _) q (fun g hg=>by simp[Value.ownBlock] at hg;omega);have g2:=(n.lt g4 (by simp[Value.ownBlock])).2;have g6:=(n.lt g4 (by simp[Value.ownBlock])).1;clear q e6 f1 a0 y3 c3 f3;obtain⟨h2,b1,a3,-⟩:=hZ n;have g8:=mT b1 b2 (by intro h;rw[h] at a3;simp at a3);clear b1 a3;obtain⟨y3,c3,f3,-⟩:=aw e7;go_wp2_with (at_builtin;refine wpList_append_own _ rfl _ _ 220 rfl w.heap.size 35 i0 (.agg #[.int .i64 0,.int .i64 0,.int .i64 0,.int .i64 0,.int .i64 0]) 5 40 underlying220 hi d6 c5 b7 rfl (by decide) _ 2 _ rfl (n.alloc _) ⟨gm,0,none⟩ 1 1 (elc f) rfl rfl (jg ((bm.keep' a2).alloc _)) (lj _) (by unfold maxLen;omega) (by omega) (by have:=a2.size;simp;omega) ?_)
   -- S16
   intro v3 w5 A c _;obtain⟨Z,f5,rfl⟩:=fw A (by omega);have BO:=(Blk.new w3 _ _).grown c (by simp[Value.ownBlock];omega);have B6:=(b2.alloc _).grown c (by simp[Value.ownBlock];omega);have Q:=Below.grown (Nat.le_refl _) (a2.alloc a2.size _) c (fun g hg=>by simp[Value.ownBlock] at hg;omega);have g1:=a2.size;have zz:=b2.lt;clear c e7 b2 y3 c3 f3 a2 n g8 g2 g6 e9 f2 f9 zb f0 g1
   -- S17
   have zq:w.heap.size+1+1<w3.heap.size:=by omega
   clear zz;generalize w3.heap.size=go at BO zq ⊢;obtain⟨D,u,X,z⟩:=hZ A;have hX:∀k e,([⟨x,y,a,b,d⟩,⟨ox,oy,oa,ob,od⟩,f]:List El)[k]?=some e->∀j,j<5->D[k*5+j]? = (elc e)[j]?:=jo [⟨x,y,a,b,d⟩,⟨ox,oy,oa,ob,od⟩,f] D z;have v:=mT u BO (by intro h;rw[h] at X;simp at X);have HG:=Lh u;have a4:=Lh BO;have a6:=Lh B6;have HB:=Lh Q;have zs:=Q.size;have HX:=Lh hX;clear A z u BO B6 Q X hX a7 a9 d7;go_wp2_with fail;go_loopw [44] (fun ti wr=>∃(k:Nat) (o:El),k<=3/\ti=.int .i64 k/\o=(([⟨x,y,a,b,d⟩,⟨ox,oy,oa,ob,od⟩,f]:List El).take k).foldl dJ ⟨x,y,a,b,d⟩/\Hid (Blk wr (go) #[.int .i64 o.x,.int .i64 o.y,.int .i64 o.a,.int .i64 o.b,.int .i64 o.d] 35)/\Hid (Blk wr Z D 35)/\Hid (Blk wr (w.heap.size+1+1) #[.int .i64 0,.int .i64 0,.int .i64 0,.int .i64 0,.int .i64 0] 35)/\Hid (zB w wr)) (fun ti _=>3-(intOf ti).toNat)
   case atStart=>exact⟨0,⟨x,y,a,b,d⟩,by omega,rfl,rfl,a4.out,HG.out,a6.out,HB.out⟩
   case round=>
    obtain⟨k,⟨P,F,J,L,K⟩,hk,rfl,hq,RO,T,R6,RB⟩:=hrel;simp only at RO;have e5:=Lh hq;clear a4 HG a6 HB;have V:=RB.out;have zr:=V.size;by_cases e1:k<3
    ·obtain⟨⟨N,E,H,G,I⟩,he⟩:∃e,([⟨x,y,a,b,d⟩,⟨ox,oy,oa,ob,od⟩,f]:List El)[k]?=some e:=⟨_,List.getElem?_eq_getElem (by simpa using e1)⟩;have m0:wr.cell? ⟨Z,k*5,none⟩=some (.int .i64 N):=(T.out.at (k*5+0)).trans (HX.out k _ he 0 (by decide));have m1:wr.cell? ⟨Z,k*5+1,none⟩=some (.int .i64 E):=(T.out.at (k*5+1)).trans (HX.out k _ he 1 (by decide));have m2:wr.cell? ⟨Z,k*5+2,none⟩=some (.int .i64 H):=(T.out.at (k*5+2)).trans (HX.out k _ he 2 (by decide));have m3:wr.cell? ⟨Z,k*5+3,none⟩=some (.int .i64 G):=(T.out.at (k*5+3)).trans (HX.out k _ he 3 (by decide));have m4:wr.cell? ⟨Z,k*5+4,none⟩=some (.int .i64 I):=(T.out.at (k*5+4)).trans (HX.out k _ he 4 (by decide));have C:=gW ([⟨x,y,a,b,d⟩,⟨ox,oy,oa,ob,od⟩,f]:List El) k ⟨x,y,a,b,d⟩ _ he;rw[<-hq] at C;have k1:(k:Int)<3:=by omega
     have k2:(0:Int)<=k:=by omega
     obtain⟨t1,U⟩:∃t,El.tr ⟨N,E,H,G,I⟩=t:=⟨_,rfl⟩;obtain⟨t2,R⟩:∃t,El.tr ⟨P,F,J,L,K⟩=t:=⟨_,rfl⟩;have T1:=Lh U;have T2:=Lh R;rw[show dJ ⟨P,F,J,L,K⟩ ⟨N,E,H,G,I⟩=if El.tr ⟨N,E,H,G,I⟩<El.tr ⟨P,F,J,L,K⟩ then ⟨N,E,H,G,I⟩ else ⟨P,F,J,L,K⟩ from rfl,U,R] at C;have a5:=Lh C;clear C he U R hq;go_wp2_with fail;obtain⟨Y,m⟩:∃Y,Y=wr.alloc (Obj.cells #[N,E,H,G,I] 35):=⟨_,rfl⟩;rw[<-m];have W:Hid (Blk Y wr.heap.size #[N,E,H,G,I] 35):=by rw[m];exact Blk.new _ _ _
     have S:Hid (Blk Y (go) #[P,F,J,L,K] 35):=by rw[m];exact RO.out.alloc _
     have SG:Hid (Blk Y Z D 35):=by rw[m];exact T.out.alloc _
     have S6:Hid (Blk Y (w.heap.size+1+1) #[.int .i64 0,.int .i64 0,.int .i64 0,.int .i64 0,.int .i64 0] 35):=by rw[m];exact R6.out.alloc _
     have SB:Hid (zB w Y):=by rw[m];exact V.alloc zr _
     have g5:=RO.out.lt;have g0:=R6.out.lt;clear m m0 m1 m2 m3 m4 RO T R6 RB V;have c0:=cell_regrown (W.out.cell (i:=0) rfl);have d0:=cell_regrown (S.out.cell (i:=0) rfl);have c1:=cell_regrown (W.out.cell (i:=1) rfl);have d1:=cell_regrown (S.out.cell (i:=1) rfl);have c2:=cell_regrown (W.out.cell (i:=2) rfl);have d2:=cell_regrown (S.out.cell (i:=2) rfl);have c3:=cell_regrown (W.out.cell (i:=3) rfl);have d3:=cell_regrown (S.out.cell (i:=3) rfl);have c4:=cell_regrown (W.out.cell (i:=4) rfl);have d4:=cell_regrown (S.out.cell (i:=4) rfl);refine wp_region_quiet_below (by kernel_rfl) (by kernel_rfl) ?_;repeat (go_big_quiet_step (exact Calls.regrown_of (gO _ _ _ _ _ _ (by first|with_reducible exact T1.out|with_reducible exact T2.out) _)))
     refine wpQuiet_nil ?_;intro w7 b0;have p:=ay b0;clear b0 c0 c1 c2 c3 c4 d0 d1 d2 d3 d4;have UX:=W.out.keep p;have UO:=S.out.keep p;have UG:=SG.out.keep p;have U6:=S6.out.keep p;have UB:=SB.out.trans (p.mono SB.out.size);obtain⟨d9,c7,d8,-⟩:=aw UX;obtain⟨e3,e2,b9,-⟩:=aw UO;clear W S SG S6 SB p;by_cases ht:t1<t2
     ·go_wp2_with fail;go_roundw
      case rel=>
       refine⟨k+1,⟨N,E,H,G,I⟩,by omega,by go_num,by rw[a5.out,if_pos ht],?_,?_,?_,?_⟩
       ·exact((((UO.ab 0 _).ab 1 _).ab 2 _).ab 3 _).ab 4 _
       ·exact(((((UG.ac (a:=⟨go,0,none⟩) (v) _).ac (a:=⟨go,1,none⟩) (v) _).ac (a:=⟨go,2,none⟩) (v) _).ac (a:=⟨go,3,none⟩) (v) _).ac (a:=⟨go,4,none⟩) (v) _)
       ·exact(((((U6.ac (a:=⟨go,0,none⟩) (by simp only;omega) _).ac (a:=⟨go,1,none⟩) (by simp only;omega) _).ac (a:=⟨go,2,none⟩) (by simp only;omega) _).ac (a:=⟨go,3,none⟩) (by simp only;omega) _).ac (a:=⟨go,4,none⟩) (by simp only;omega) _)
       ·exact(show Below _ _ _ from ad)
      case measure=>simp[intOf];omega
     ·go_wp2_with fail;go_roundw
      case rel=>exact⟨k+1,⟨P,F,J,L,K⟩,by omega,by go_num,by rw[a5.out,if_neg ht],UO,UG,U6,UB⟩
      case measure=>simp[intOf];omega
    ·obtain rfl:k=3:=by omega
     have hF:Hid (foundE ⟨x,y,a,b,d⟩ O [f]=(⟨P,F,J,L,K⟩,0)):=by show _=_;rw[EV.out,EC.out,e5.out];rfl
     obtain⟨d9,c7,d8,-⟩:=aw RO.out;obtain⟨e3,e2,b9,-⟩:=aw R6.out;clear EV EC hq;go_wp2_with fail;exact rT 5 #[.int .i64 P,.int .i64 F,.int .i64 J,.int .i64 L,.int .i64 K] (.int .i64 0) ⟨by rw[hF.out],ad⟩
theorem oA(e f:El)(a:e.may=true)(b:f.may=true):gfuseE e f=foundE e (fuseE e f) [f]:=by unfold gfuseE;rw [if_pos ⟨a,b⟩]
theorem rb(e f:El)(h:e.may=false∨f.may=false):gfuseE e f=(El.zero,1):=by
 unfold gfuseE;rw[if_neg];rintro⟨h1,h2⟩;rcases h with h|h
 ·rw[h1] at h;cases h
 ·rw[h2] at h;cases h
theorem Bw(x y a b d h j m n l:Int)(w:World):zR 42 #[elC x y a b d,elC h j m n l] w (.tuple #[elV (gfuseE ⟨x,y,a,b,d⟩ ⟨h,j,m,n,l⟩).1,.int .i64 (gfuseE ⟨x,y,a,b,d⟩ ⟨h,j,m,n,l⟩).2]):=by
 cases hm:El.may ⟨x,y,a,b,d⟩ with
 | false=>
  have v:=Lh hm;have t:=Lh (rb ⟨x,y,a,b,d⟩ ⟨h,j,m,n,l⟩ (.inl hm));clear hm;go_enter func42,ntmps42;go_wp2_with fail;refine(aN _ _ _ _ _ _ v.out _).mono ?_;rintro e C ⟨rfl,c⟩;have f:=c.size;(try simp at f);have i:=bq3 c (w.heap.size);go_wp2_with fail;exact rT 5 z5 (.int .i64 1) ⟨by rw[t.out];rfl,ad⟩
 | true=>
  have v:=Lh hm;cases hf:El.may ⟨h,j,m,n,l⟩ with
  | false=>
   have A:=Lh hf;have t:=Lh (rb ⟨x,y,a,b,d⟩ ⟨h,j,m,n,l⟩ (.inr hf));clear hm hf;go_enter func42,ntmps42;go_wp2_with fail;refine(aN _ _ _ _ _ _ v.out _).mono ?_;rintro e C ⟨rfl,c⟩;have f:=c.size;(try simp at f);have i:=bq3 c (w.heap.size);go_wp2_with fail;refine(aN _ _ _ _ _ _ A.out _).mono ?_;rintro e B ⟨rfl,g⟩;have p:=g.size;(try simp at p);have q:=bq3 g (w.heap.size);go_wp2_with fail;exact rT 5 z5 (.int .i64 1) ⟨by rw[t.out];rfl,ad⟩
  | true=>
   have A:=Lh hf;obtain⟨⟨L,F,H,D,I⟩,k,z⟩:∃o k,foundE ⟨x,y,a,b,d⟩ (fuseE ⟨x,y,a,b,d⟩ ⟨h,j,m,n,l⟩) [⟨h,j,m,n,l⟩]=(o,k):=⟨_,_,rfl⟩;have t:Hid (gfuseE ⟨x,y,a,b,d⟩ ⟨h,j,m,n,l⟩=(⟨L,F,H,D,I⟩,k)):=by show _=_;rw[oA _ _ hm hf,z]
   have N:=Lh z;clear hm hf z;go_enter func42,ntmps42;go_wp2_with fail;refine(aN _ _ _ _ _ _ v.out _).mono ?_;rintro e C ⟨rfl,c⟩;have f:=c.size;(try simp at f);have i:=bq3 c (w.heap.size);go_wp2_with fail;refine(aN _ _ _ _ _ _ A.out _).mono ?_;rintro e B ⟨rfl,g⟩;have p:=g.size;(try simp at p);have q:=bq3 g (w.heap.size);have M:=((((Blk.new w #[.int .i64 x,.int .i64 y,.int .i64 a,.int .i64 b,.int .i64 d] 35).alloc _).alloc _).keep c).keep g;have E:=(((Blk.new' (w.alloc _) #[.int .i64 h,.int .i64 j,.int .i64 m,.int .i64 n,.int .i64 l] 35 (b:=w.heap.size+1) (by simp)).alloc _).keep c).keep g;go_wp2_with fail
   have J:=Bx x y a b d 90 #[.pointer (some ⟨w.heap.size,0,none⟩),.pointer (some ⟨w.heap.size+1,0,none⟩)] (fuseE ⟨x,y,a,b,d⟩ ⟨h,j,m,n,l⟩) ⟨h,j,m,n,l⟩ B.heap.size
    (B.alloc (Obj.cells #[h,j,m,n,l] 35)) (Blk.new _ _ _) (by intro G w;rfl)
    (fun k O _ _ K=>FD x y a b d h j m n l k _ _ O ((M.alloc _).keep K) ((E.alloc _).keep K))
   rw[N.out] at J;clear M E;refine J.mono ?_;rintro e P ⟨rfl,r⟩;have s:=r.size;(try simp at s);have u:=bq3 r (w.heap.size);go_wp2_with fail;exact rT 5 #[.int .i64 L,.int .i64 F,.int .i64 H,.int .i64 D,.int .i64 I] (.int .i64 k) ⟨by rw[t.out],ad⟩
theorem ur(x y a b d e f c i g o j m n l k:Int)(h:gfuseE ⟨x,y,a,b,d⟩ ⟨e,f,c,i,g⟩=(⟨o,j,m,n,l⟩,k))(w:World):zR 42 #[elC x y a b d,elC e f c i g] w (.tuple #[elC o j m n l,k]):=by
 have:=Bw x y a b d e f c i g w;rw[h] at this;exact this
theorem gholds(e f:El)(n:e.may=true)(l:f.may=true)(p q:Int){g:El}{k:Int}(c:gfuseE e f=(g,k)):(k=3/\¬(e.has p q=true/\f.has p q=true))∨(k=0/\(e.has p q=true->f.has p q=true->g.has p q=true)/\g.may=true/\g.tr<=e.tr/\g.tr<=f.tr):=by
 rw[oA e f n l] at c;rcases found_cases e (fuseE e f) [f] with ⟨⟨x,i,d,s⟩,h⟩|⟨o,h,b,u,t,-⟩
 ·rw[h] at c;injection c with _ hk
  left;refine⟨hk.symm,fun r=>?_⟩;exact(mK e f x p q i d r.1 r.2 (o:=(fuseE e f x).1) (er:=(fuseE e f x).2) rfl).1 s
 ·rw[h] at c;injection c with c hk;subst c
  right;refine⟨hk.symm,?_,?_,u,t f (by simp)⟩
  ·intro m j;rcases b with rfl|⟨x,i,d,a⟩|b
   ·exact m
   ·exact(mK e f x p q i d m j a).2 rfl
   ·simp only[List.mem_singleton] at b;subst b;exact j
  ·rcases b with rfl|⟨x,i,d,a⟩|b
   ·exact n
   ·unfold fuseE bU at a;split at a
    ·split at a
     ·unfold ellI at a;split at a
      ·injection a with _ a;cases a
      ·split at a
       ·injection a with _ a;cases a
       ·exact(qZ (oG a).2).2.2
     ·injection a with _ a;cases a
    ·injection a with _ a;cases a
   ·simp only[List.mem_singleton] at b;subst b;exact l
def mergeE(e f:El):El×Int:=if f.may=true then (if (gfuseE e f).2=0 then ((gfuseE e f).1,0) else (f,0)) else (El.zero,1)
theorem Ns(e f:El)(h:f.may=false):mergeE e f=(El.zero,1):=by unfold mergeE;rw [h,if_neg (by decide)]
theorem Cm(e f:El)(j:f.may=true)(p q:Int){m:El}{k:Int}(h:mergeE e f=(m,k)):k=0/\m.may=true/\m.tr<=f.tr/\(f.has p q=true->(e.may=true->e.has p q=true)->m.has p q=true):=by
 unfold mergeE at h;rw[if_pos j] at h;obtain⟨g,l,i⟩:∃g l,gfuseE e f=(g,l):=⟨_,_,rfl⟩;rw[i] at h;simp only at h;cases he:e.may with
 | false=>
  rw[rb e f (.inl he)] at i;injection i with o d
  subst d;rw[if_neg (by decide)] at h;injection h with c n
  subst c;subst n;exact⟨rfl,j,Int.le_refl _,fun h _=>h⟩
 | true=>
  rcases gholds e f he j p q i with ⟨o,d⟩|⟨o,d,c,n,r⟩
  ·rw[if_neg (by omega)] at h;injection h with c n
   subst c;subst n;exact⟨rfl,j,Int.le_refl _,fun h _=>h⟩
  ·rw[if_pos o] at h;injection h with h6 h7
   subst h6;subst h7;exact⟨rfl,c,r,fun a b=>d (b rfl) a⟩
theorem RL(x y a b d j m p q n:Int)(w:World):zR 17 #[elC x y a b d,elC j m p q n] w (.tuple #[elV (mergeE ⟨x,y,a,b,d⟩ ⟨j,m,p,q,n⟩).1,.int .i64 (mergeE ⟨x,y,a,b,d⟩ ⟨j,m,p,q,n⟩).2]):=by
 cases hf:El.may ⟨j,m,p,q,n⟩ with
 | false=>
  have t:=Lh hf;have s:=Lh (Ns ⟨x,y,a,b,d⟩ _ hf);clear hf;go_enter func17,ntmps17;go_wp2_with fail;refine(I3 _ _ t.out _).mono ?_;rintro e v ⟨rfl,c⟩;have f:=c.size;(try simp at f);have g:=bq3 c (w.heap.size);go_wp2_with fail;exact rT 5 z5 (.int .i64 1) ⟨by rw[s.out];rfl,ad⟩
 | true=>
  have t:=Lh hf;obtain⟨⟨E,A,C,z,D⟩,k,r⟩:∃o k,gfuseE ⟨x,y,a,b,d⟩ ⟨j,m,p,q,n⟩=(o,k):=⟨_,_,rfl⟩;have B:=Lh r;by_cases u:k=0
  ·subst u;have s:Hid (mergeE ⟨x,y,a,b,d⟩ ⟨j,m,p,q,n⟩=(⟨E,A,C,z,D⟩,0)):=by show _=_;unfold mergeE;rw[if_pos hf,r,if_pos rfl]
   clear hf r;go_enter func17,ntmps17;go_wp2_with fail;refine(I3 _ _ t.out _).mono ?_;rintro e v ⟨rfl,c⟩;have f:=c.size;(try simp at f);have g:=bq3 c (w.heap.size);go_wp2_with fail;refine(ur _ _ _ _ _ _ _ _ _ _ _ _ _ _ _ _ B.out _).mono ?_;rintro e G ⟨rfl,i⟩;have h:=i.size;(try simp at h);have l:=bq3 i (w.heap.size);go_wp2_with fail;exact rT 5 #[.int .i64 E,.int .i64 A,.int .i64 C,.int .i64 z,.int .i64 D] (.int .i64 0) ⟨by rw[s.out],ad⟩
  ·have s:Hid (mergeE ⟨x,y,a,b,d⟩ ⟨j,m,p,q,n⟩=(⟨j,m,p,q,n⟩,0)):=by show _=_;unfold mergeE;rw[if_pos hf,r,if_neg u]
   have F:(k==0)=false:=by simp[u]
   clear hf r;go_enter func17,ntmps17;go_wp2_with fail;refine(I3 _ _ t.out _).mono ?_;rintro e v ⟨rfl,c⟩;have f:=c.size;(try simp at f);have g:=bq3 c (w.heap.size);go_wp2_with fail;refine(ur _ _ _ _ _ _ _ _ _ _ _ _ _ _ _ _ B.out _).mono ?_;rintro e G ⟨rfl,i⟩;have h:=i.size;(try simp at h);have l:=bq3 i (w.heap.size);go_wp2_with fail;exact rT 5 #[.int .i64 j,.int .i64 m,.int .i64 p,.int .i64 q,.int .i64 n] (.int .i64 0) ⟨by rw[s.out],ad⟩
theorem RK(x y a b d e f c i g o j m n l k:Int)(h:mergeE ⟨x,y,a,b,d⟩ ⟨e,f,c,i,g⟩=(⟨o,j,m,n,l⟩,k))(w:World):zR 17 #[elC x y a b d,elC e f c i g] w (.tuple #[elC o j m n l,k]):=by
 have:=RL x y a b d e f c i g w;rw[h] at this;exact this
theorem S8(g:Nat)(m:Int)(v:Bool)(x y a b d c f l n i:Int)(u:Bool)(o q t s p k:Int)(h:setS m v ⟨x,y,a,b,d⟩ ⟨c,f,l,n,i⟩=((u,⟨o,q,t,s,p⟩),k))(w:World)(B:Blk w g (flt m v x y a b d) 119):Calls Tryz.prog 122 #[.pointer (some ⟨g,0,none⟩),elC c f l n i] w fun e j=>e=.returned (.int .i64 k)/\ah g w j/\Blk j g (flt m u o q t s p) 119:=by
 refine(Ta g m v x y a b d c f l n i w B).mono ?_;rintro e j ⟨E,D,F,r,A,z,C⟩;rw[h] at r;injection r with h1 h2
 injection h1 with h3 h4
 subst h2;subst h3;subst h4;exact⟨A,z,C⟩
end Go.Proofs.YtechbdnhalmobaaGreatDoor
