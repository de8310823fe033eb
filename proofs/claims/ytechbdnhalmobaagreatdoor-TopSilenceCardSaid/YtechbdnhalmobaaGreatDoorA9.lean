/- Walks. -/
import Derived.Test.YtechbdnhalmobaaGreatDoorAc
import Derived.Lib.QuietBelow
import Derived.Lib.SlBytesConst
namespace Go.Proofs.YtechbdnhalmobaaGreatDoor
set_option maxRecDepth 100000
set_option maxHeartbeats 16000000
set_option linter.unusedSimpArgs false
set_option linter.unusedVariables false
open Go.Proofs.Tryz
open Go.RowKit Go.Maps
open Go.RowKit
theorem PN(l:List EntD)(k:Nat)(x:EntD)(h:l[k]?=some x):((l.flatMap nW).drop (k*10)).take 10=nW x:=by
 induction l generalizing k with
 | nil=>cases h
 | cons a r b=>
  cases k with
  | zero=>simp at h;subst h;rfl
  | succ k=>
   have e:(k+1)*10=10+k*10:=by omega
   rw[e,List.flatMap_cons,<-List.drop_drop];have c:(nW a++r.flatMap nW).drop 10=r.flatMap nW:=rfl;rw[c];exact b k (by simpa using h)
theorem EO{w:World}{B e n:Nat}{v:Value}{l:List EntD}(h:w.ownsRow B e 10 v n (l.flatMap nW)){k:Nat}{x:EntD}(f:l[k]?=some x)(u:l.length=n):∃g a,v=.slice (some ⟨g,0,none⟩) n a/\g<w.heap.size/\B<=g/\w.row? g (k*10) 10=some (entC x):=by
 have j:=(List.getElem?_eq_some_iff.1 f).1;obtain⟨t,⟨-,rfl⟩|⟨g,a,b,rfl,p,i,q,r,s,m⟩⟩:=h
 ·omega
 ·have c:Blk w g b e:=i;refine⟨g,a,rfl,c.lt,p,?_⟩;rw[c.row? (k*10) 10 (by omega)];congr 1
  apply Array.ext';have d:=PN l k x f;rw[<-m] at d;have o:(b.extract (k*10) (k*10+10)).toList=(b.toList.drop (k*10)).take 10:=by simp
  rw[o];show _=nW x;rw[<-d,List.drop_take,List.take_take];congr 1
  omega
def evK(t:cB)(now silent:Int)(k:Nat):List (Int×EntD):=(t.ents.take k).filter (fun p=>! Cp silent now p.2)++t.ents.drop k
theorem PT(t:cB)(b a:Int):evK t b a 0=t.ents:=by simp [evK]
theorem Sr(t:cB)(b a:Int):evK t b a t.ents.length=(t.tx b a).ents:=by simp [evK,cB.tx]
theorem PU(t:cB)(b a:Int)(k:Nat)(p:Int×EntD)(h:t.ents[k]?=some p)(d:Cp a b p.2=false):evK t b a (k+1)=evK t b a k:=by
 unfold evK;have c:=(List.getElem?_eq_some_iff.1 h).1;have e:t.ents.drop k=p :: t.ents.drop (k+1):=by rw[List.drop_eq_getElem_cons c];congr 1;rw[List.getElem?_eq_getElem c] at h;exact Option.some.inj h
 rw[e,List.take_add_one,h];simp[d]
theorem Um(t:cB)(b a:Int)(f:t.ents.Pairwise (fun p q=>p.1<q.1))(k:Nat)(p:Int×EntD)(h:t.ents[k]?=some p)(j:Cp a b p.2=true):evK t b a (k+1)=del (evK t b a k) p.1:=by
 unfold evK;have c:=(List.getElem?_eq_some_iff.1 h).1;have e:t.ents.drop k=p :: t.ents.drop (k+1):=by rw[List.drop_eq_getElem_cons c];congr 1;rw[List.getElem?_eq_getElem c] at h;exact Option.some.inj h
 have l:t.ents=t.ents.take k++(p :: t.ents.drop (k+1)):=by rw[<-e,List.take_append_drop]
 rw[l] at f;obtain⟨-,g,i⟩:=List.pairwise_append.1 f;obtain⟨m,-⟩:=List.pairwise_cons.1 g;rw[e,List.take_add_one,h];unfold del;rw[List.filter_append,List.filter_append]
 have o:((t.ents.take k).filter (fun p=>! Cp a b p.2)).filter (fun q:Int×EntD=>! decide (q.1=p.1))=(t.ents.take k).filter (fun p=>! Cp a b p.2):=by
  rw[List.filter_eq_self];intro q d;have:=i q (List.mem_filter.1 d).1 p (by simp);simp;omega
 have n:(p :: t.ents.drop (k+1)).filter (fun q:Int×EntD=>! decide (q.1=p.1))=t.ents.drop (k+1):=by
  rw[List.filter_cons_of_neg (by simp),List.filter_eq_self];intro q d;have:=m q d;simp;omega
 rw[o,n];simp[j]
theorem dl.Sw{w:World}{b:Nat}{M:List (Int×Value)}(h:dl w b M)(t e:TypeId)(m:prog.underlying t=some (.map 3 e))(k:Int)(d : -9223372036854775808<=k/\k<=9223372036854775807)(i:TypeId):∃a,(Builtin.delete_ #[t,3] i #[.map (some b),.int .i64 k]).run prog w.drew=.ok (.tuple #[]) a/\dl a b (del M k)/\ah b w a:=by
 have l:dl w.drew b M:=h;obtain⟨a,j,f,c⟩:=World.ownsMap.drop l IN m (F5 d) i;rw[IK] at f;have g:=c.grown;exact⟨a,j,dl.JR f,⟨g.os,g.tape,g.output,g.size,fun k d n=>g.block k d (fun e=>n (by injection e))⟩⟩
theorem He{W g:World}{B e f n:Nat}{v:Value}{j:List Value}(d:W.ownsRow B e f v n j)(a:W.grownBy g v.ownBlock):aa (fun k=>B<=k) [e] false W g:=by
 refine⟨a.os,a.tape,a.output,a.size,fun k o h=>a.block k o (fun c=>h ?_)⟩;obtain⟨-,⟨rfl,-⟩|⟨b,i,m,rfl,l,p,-⟩⟩:=d
 ·cases c
 ·injection c with c;simp only at c;subst c
  exact⟨l,OfT.blk p (by simp)⟩
theorem ah.OC{g:Nat}{w W d:World}{f:List TypeId}{i:Bool}(h:ah g w W)(a:aa (fun k=>w.heap.size<=k) f i W d):ah g w d:=
 ⟨a.os.trans h.os,a.tape.trans h.tape,a.output.trans h.output,Nat.le_trans h.size a.size,fun k c b=>(a.block k (Nat.lt_of_lt_of_le c h.size) (fun e=>by have:=e.1;omega)).trans (h.block k c b)⟩
theorem Kv{w i:World}{B e a n b:Nat}{v:Value}{j:List Value}{M:List (Int×Value)}(h:w.ownsRow B e a v n j)(p:ah b w i)(q:dl w b M):i.ownsRow B e a v n j:=by
 obtain⟨k,l|⟨g,f,c,rfl,r,o,m⟩⟩:=h
 ·exact⟨k,.inl l⟩
 ·have d:Blk w g c e:=o;exact⟨k,.inr ⟨g,f,c,rfl,r,p.blk d (Ne.symm (q.ne d)),m⟩⟩
theorem J0:(prog.info? 3).map (fun i=>(i.zero,i.size,i.bytes))=some (some (.int .i64 0),1,8):=by kernel_rfl
theorem JY(x:Int):∀u∈[Value.int .i64 x],u.oneCell'=true:=by intro u a;simp at a;subst a;rfl
theorem It{S:Nat->Prop}{w:World}{g:Nat}{L:Ah}{t:cB}(H:dR S w g L t)(U:dA t)(c b:Int)(hn:0<=c/\c<=1000000)(hs:1<=b/\b<=1000000):Calls prog 136 #[.pointer (some ⟨g,0,none⟩),c,b] w fun e w'=>(∃v,e=.returned v)/\ah L.me w w'/\dR S w' g L (t.tx c b):=by
 obtain⟨i0,hi,a1,Y,X⟩:=info_parts J0;have HK:=Lh U;have HH:=Lh H;have HA:=Lh (EE H U);have hl:=U.len.1;have c7:g<w.heap.size:=H.blk.lt;obtain⟨c9,c5⟩:=hn;obtain⟨b7,b5⟩:=hs;have J:max 1 b=b:=by omega
 have b9:IntKind.i64.wrap (c-b)=c-b:=by rw[IntKind.wrap_i64];omega
 clear H U;go_enter func136,ntmps136
 go_wp2_with (first
  | (go_at_call 27;refine HA.out.mono ?_;rintro e w2 ⟨vs,rfl,y,-,G⟩;obtain⟨ao,a2,rfl⟩:=kh y))
 have HR:=Lh y;have HT:Hid (dR S w2 g L {t with ents:=evK t c b 0}):=by show dR _ _ _ _ _;rw[PT];exact HH.out.below G
 have HB:=Lh (ah.of_below (g:=L.me) G);have c8:(t.ents.length:Int)<=9223372036854775807:=by omega
 clear y G;go_loopw [2,7,13] (fun s a i wr=>∃k:Nat,k<=t.ents.length/\i=.int .i64 k/\s=.int .i64 b/\(∃n R,n<=k/\Hid (wr.ownsRow w.heap.size 3 1 a n R))/\Hid (wr.ownsRow w.heap.size 99 10 (.slice ao t.ents.length a2) t.ents.length (t.all.flatMap nW))/\Hid (ah L.me w wr)/\Hid (dR S wr g L {t with ents:=evK t c b k})) (fun _ _ i _=>t.ents.length-(intOf i).toNat)
 case atStart=>exact⟨0,by omega,rfl,rfl,⟨0,[],by omega,⟨by simp,.inl ⟨rfl,rfl⟩⟩⟩,HR.out,HB.out,HT.out⟩
 case round=>
  obtain⟨k,hk,rfl,rfl,⟨n,R,c6,HX⟩,A,z,r⟩:=hrel;by_cases a7:k<t.ents.length
  ·obtain⟨⟨o,v⟩,j⟩:∃p,t.ents[k]?=some p:=⟨_,List.getElem?_eq_getElem a7⟩;obtain⟨gr,b4,hv,d0,b6,hc⟩:=EO A.out (k:=k) (x:=v) (by simp[cB.all,j]) (by simp[cB.all]);injection hv with hv1 _ hv3
   subst hv1;subst hv3;have P:=HK.out.ents _ (List.mem_of_getElem? j)
   have W:Hid (-9223372036854775808<=o/\o<=9223372036854775807):=by
    have h1:0<=o:=P.2.1;have h2:o<64:=P.2.2.1;show _/\_;omega
   have f:v.node=o:=P.1;have c0:(k:Int)<(t.ents.length:Int):=by omega
   have c2:(0:Int)<=k:=by omega
   have hz:=z.out.size;obtain⟨y1,c1,f1,-⟩:=cz r.out.blk;cases hgn:Cp b c v with
   | false=>
    have E:=Lh (PU t c b k _ j hgn);simp only[Cp,Bool.and_eq_false_iff,decide_eq_false_iff_not,J] at hgn;obtain⟨C,x1,T,x3,⟨e0,V,e2,e3,Z⟩,x5⟩:=v;simp only at hgn f;clear j P;by_cases N:b<=c
    ·have a5:¬T<=c-b:=by rcases hgn with h|h;exact absurd N h;exact h
     clear hgn;go_wp2_with fail;exact⟨⟨k+1,by omega,by go_num,rfl,⟨n,R,by omega,cv HX.out ((Below.refl _ _).alloc (Nat.le_refl _) _)⟩,cv A.out ((Below.refl _ _).alloc (Nat.le_refl _) _),z.out.alloc _,by show dR _ _ _ _ _;rw[E.out];exact r.out.below ((Below.refl _ _).alloc (Nat.le_refl _) _)⟩,by simp[intOf];omega⟩
    ·clear hgn;go_wp2_with fail;exact⟨⟨k+1,by omega,by go_num,rfl,⟨n,R,by omega,cv HX.out ((Below.refl _ _).alloc (Nat.le_refl _) _)⟩,cv A.out ((Below.refl _ _).alloc (Nat.le_refl _) _),z.out.alloc _,by show dR _ _ _ _ _;rw[E.out];exact r.out.below ((Below.refl _ _).alloc (Nat.le_refl _) _)⟩,by simp[intOf];omega⟩
   | true=>
    have E:=Lh (Um t c b HK.out.asc k _ j hgn);simp only[Cp,Bool.and_eq_true,decide_eq_true_eq,J] at hgn;obtain⟨C,x1,T,x3,⟨e0,V,e2,e3,Z⟩,x5⟩:=v;simp only at hgn f;obtain⟨N,a5⟩:=hgn;clear j P;obtain⟨F,m⟩:∃u,u=wr.alloc (Obj.cells (entC ⟨C,x1,T,x3,⟨e0,V,e2,e3,Z⟩,x5⟩) 99):=⟨_,rfl⟩;have K:zB wr (F.alloc (Obj.cells #[C] 3)):=by rw[m];exact((Below.refl _ _).alloc (Nat.le_refl _) _).alloc (by simp) _
    have I:=Lh (cv HX.out K);have O:=Lh (cv A.out K);have a3:Hid (ah L.me w (F.alloc (Obj.cells #[C] 3))):=ah.trans z.out (ah.of_below K);have b1:=Lh (r.out.below K);have HE:Hid (Blk (F.alloc (Obj.cells #[C] 3)) wr.heap.size (entC ⟨C,x1,T,x3,⟨e0,V,e2,e3,Z⟩,x5⟩) 99):=by rw[m];exact(Blk.new _ _ _).alloc _
    subst m;subst f;clear K
    go_wp2_with (first
     | (at_builtin;refine wpList_append_own _ rfl _ _ 120 rfl w.heap.size 3 i0 (.int .i64 0) 1 8 underlying120 hi a1 Y X rfl (by decide) _ n _ rfl I.out ⟨wr.heap.size+1,0,none⟩ 1 1 [.int .i64 C] rfl rfl (te (Blk.new' _ _ _ (by simp))) (JY _) (by unfold maxLen;omega) (by omega) (by simp;omega) ?_;intro v' w5 D d _))
    have Q:=He I.out d;have b2:=Lh D;have b0:=Lh (Ho O.out d (Hp O.out I.out (by decide)));have a6:=Lh (ah.OC a3.out Q);have l:=b1.out.nr Q (by decide) (by decide);have M:=Q.blk HE.out (by decide);obtain⟨w9,b3,B,q⟩:=l.me.Sw 125 99 underlying125 C W.out 0;simp only at B;rw[I1,<-E.out] at B;have a0:=Lh (l.EG q B);have a4:=Lh (Kv b2.out q l.me);have a8:=Lh (Kv b0.out q l.me);have a9:=Lh (ah.trans a6.out q);obtain⟨y3,c3,f3,-⟩:=cz l.blk;obtain⟨y4,c4,f4,-⟩:=cz M;clear y1 c1 f1 l M Q d D B q;go_region
    go_wp2_with fail;exact⟨⟨k+1,by omega,by go_num,rfl,⟨n+1,_,by omega,a4.out⟩,a8.out,a9.out,a0.out⟩,by simp[intOf];omega⟩
  ·have b8:¬(k:Int)<(t.ents.length:Int):=by omega
   obtain rfl:k=t.ents.length:=by omega
   go_wp2_with fail;go_ret;have ht:=r.out;rw[Sr] at ht;exact⟨⟨_,rfl⟩,z.out,ht⟩
theorem E6(w:World):Calls Tryz.prog 302 #[] w fun e a=>e=.returned (.pointer (some ⟨w.heap.size,0,none⟩))/\a=w.alloc (Obj.cells #[false,.int .i64 0,.int .u64 0] 375):=by
 go_enter Tryz.func302,Tryz.ntmps302;go_wp2
 go_ret;exact⟨rfl,rfl⟩
theorem OfT.map{ty:List TypeId}{w:World}{k:Nat}{M:List (Int×Value)}(h:dl w k M):OfT ty true w k:=by
 obtain⟨es,a,b,_⟩:=h;refine⟨fun c t f e=>?_,fun _ _ _=>rfl⟩;rw[b] at e;cases e
theorem dl.Hz{w:World}{b:Nat}{M:List (Int×Value)}(h:dl w b M)(t e:TypeId)(i:prog.underlying t=some (.map 3 e))(d:Nat)(a:Array Obj)(c:TypeId):(Builtin.len_ #[t] c #[.map (some b)]).run prog (Go.Sort.grow (redrawn w d) a)=.ok (.int .i64 M.length) (Go.Sort.grow (redrawn w d) a):=by
 have f:dl (Go.Sort.grow (redrawn w d) a) b M:=dl.below h (below_regrown w d a);have:=World.ownsMap.len f i c;rw[this];have e:Maps.size (mapD M)=M.length:=by simp[mapD,Maps.size]
 rw[e]
theorem A4(L:Ah)(t:cB)(n:Int):lk (t.lives.map fun p=>(p.1,tt (L.wb p.1) p.2)) n=(lk t.lives n).map (tt (L.wb n)):=Pv (fun k x=>tt (L.wb k) x) _ _
theorem Jl(n:Int)(h:nodeB n=true)(w:World):Calls prog 252 #[n] w fun e a=>e=.returned (.bool true)/\a=w:=by
 have c:0<=n/\n<64:=by simpa [nodeB] using h
 obtain⟨d,b⟩:=c;go_enter func252,ntmps252;go_wp2
 go_ret;exact⟨by simp[b],rfl⟩
section
variable {S:Nat->Prop} {w:World} {g:Nat} {L:Ah} {t:cB} (H:dR S w g L t)
include H
end
abbrev U8(h:HalfD):Value:=.agg #[.int .i64 h.st,.int .i64 h.fr,.int .i64 h.til,.int .i64 h.mrk,.int .i64 h.sp]
abbrev xX(s:cZ):Array Value:=#[.int .i64 s.ask.st,.int .i64 s.ask.fr,.int .i64 s.ask.til,.int .i64 s.ask.mrk,.int .i64 s.ask.sp,.int .i64 s.tell.st,.int .i64 s.tell.fr,.int .i64 s.tell.til,.int .i64 s.tell.mrk,.int .i64 s.tell.sp]
theorem OR(w:World):Calls prog 121 #[] w fun e w'=>e=.returned (.pointer (some ⟨w.heap.size,0,none⟩))/\w'=w.alloc (Obj.cells (xX .new) 245):=by
 go_enter func121,ntmps121;go_wp2
 go_ret;exact⟨rfl,rfl⟩
theorem ny(t:Int)(k:Bool)(h:ot t=k)(w:World):Calls prog 300 #[t] w fun e c=>e=.returned (.bool k)/\c=w:=by
 subst h;have E:ot t=(decide (0<=t)&&decide (t<=70368744177664)):=rfl;by_cases b:0<=t
 ·have a:Hid (ot t=decide (t<=70368744177664)):=by show _=_;rw[E];simp[b]
  clear E;go_enter func300,ntmps300;go_wp2
  go_ret;exact⟨by rw[a.out];rfl,rfl⟩
 ·have a:Hid (ot t=false):=by show _=_;rw[E];simp[b]
  clear E;go_enter func300,ntmps300;go_wp2
  go_ret;exact⟨by rw[a.out];rfl,rfl⟩
theorem My(t m s:Int)(h:HalfD)(a:begunF t m s=h)(w:World):zR 248 #[t,m,s] w (U8 h):=by
 cases hf:ot t with
 | false=>
  have b:=Lh hf;obtain rfl:h=HalfD.zero:=by rw[<-a];unfold begunF;rw[hf];rfl
  clear hf a;go_enter func248,ntmps248;go_wp2_with fail;refine(ny _ _ b.out _).mono ?_;rintro e c ⟨rfl,rfl⟩;go_wp2_with fail;exact ak 5 #[.int .i64 0,.int .i64 0,.int .i64 0,.int .i64 0,.int .i64 0] rfl rfl rfl underlying243 rfl (by kernel_rfl) rc5 ⟨rfl,ad⟩
 | true=>
  have b:=Lh hf;obtain rfl:h=⟨1,t,0,m,s⟩:=by rw[<-a];unfold begunF;rw[hf];rfl
  clear hf a;go_enter func248,ntmps248;go_wp2_with fail;refine(ny _ _ b.out _).mono ?_;rintro e c ⟨rfl,rfl⟩;go_wp2_with fail;exact ak 5 #[.int .i64 1,.int .i64 t,.int .i64 0,.int .i64 m,.int .i64 s] rfl rfl rfl underlying243 rfl (by kernel_rfl) rc5 ⟨rfl,ad⟩
theorem Iy{w:World}{g:Nat}{t:TypeId}{c:Array Value}(o:Nat)(h:Blk w g c t)(a b d e f:Value):Blk (((((w.setCell ⟨g,o,none⟩ a).setCell ⟨g,o+1,none⟩ b).setCell ⟨g,o+2,none⟩ d).setCell ⟨g,o+3,none⟩ e).setCell ⟨g,o+4,none⟩ f) g (((((c.setIfInBounds o a).setIfInBounds (o+1) b).setIfInBounds (o+2) d).setIfInBounds (o+3) e).setIfInBounds (o+4) f) t:=
 ((((h.ab _ _).ab _ _).ab _ _).ab _ _).ab _ _
section
variable (g:Nat) (w:World) (s:cZ) (B:Blk w g (xX s) 245)
include B
theorem MX(b a:Int):Calls prog 189 #[.pointer (some ⟨g,0,none⟩),b,a] w fun e j=>e=.returned (.tuple #[])/\ah g w j/\Blk j g (xX (s.poll b a)) 245:=by
 have i:Hid (s.poll b a={s with ask:=begunF b a 0}):=rfl;obtain⟨h,f⟩:∃h,begunF b a 0=h:=⟨_,rfl⟩;have k:=Lh (My _ _ _ h f);rw[f] at i;obtain⟨⟨I,t,M,D,N⟩,K,A,G,u,H⟩:=s;obtain⟨F,r,v,J,x⟩:=h;have p:=Lh B;obtain⟨n,m,q,l⟩:=cz B;clear B f;go_enter func189,ntmps189;go_wp2_with fail;refine(k.out _).mono ?_;rintro e y ⟨rfl,d⟩;have c:=Lh (p.out.keep d);obtain⟨E,C,L,z⟩:=cz c.out;clear n m q l;go_wp2_with fail;refine bodyPost_end (results_none rfl _ _ _) rfl ?_;rw[i.out];have o:=c.out;exact⟨rfl,(ah.of_below d).trans dY,(by apply Blk.of_eq;(focus (repeat (first|with_reducible exact o|with_reducible apply Blk.drew|with_reducible apply blk_drewN|with_reducible apply Blk.alloc|with_reducible apply Blk.ab)));first|rfl|(simp;done))⟩
theorem JO(b a:Int):Calls prog 312 #[.pointer (some ⟨g,0,none⟩),b,a] w fun e j=>e=.returned (.tuple #[])/\ah g w j/\Blk j g (xX (s.gotPoll b a)) 245:=by
 have i:Hid (s.gotPoll b a={s with tell:=begunF b 0 a}):=rfl;obtain⟨h,f⟩:∃h,begunF b 0 a=h:=⟨_,rfl⟩;have k:=Lh (My _ _ _ h f);rw[f] at i;obtain⟨⟨I,t,M,D,N⟩,K,A,G,u,H⟩:=s;obtain⟨F,r,v,J,x⟩:=h;have p:=Lh B;obtain⟨n,m,q,l⟩:=cz B;clear B f;go_enter func312,ntmps312;go_wp2_with fail;refine(k.out _).mono ?_;rintro e y ⟨rfl,d⟩;have c:=Lh (p.out.keep d);obtain⟨E,C,L,z⟩:=cz c.out;clear n m q l;go_wp2_with fail;refine bodyPost_end (results_none rfl _ _ _) rfl ?_;rw[i.out];have o:=c.out;exact⟨rfl,(ah.of_below d).trans dY,(by apply Blk.of_eq;(focus (repeat (first|with_reducible exact o|with_reducible apply Blk.drew|with_reducible apply blk_drewN|with_reducible apply Blk.alloc|with_reducible apply Blk.ab)));first|rfl|(simp;done))⟩
end
theorem TR(s bo f k j e c h g x y a b d:Int)(w:World):zR 241 #[frC 1 s bo f k j e c h g x y a b d] w (.tuple #[frC 1 s bo f k j e c h g x y a b d,true]):=by
 have m:Hid (True=True):=rfl;go_enter func241,ntmps241;go_wp2_with fail;exact az 15 #[.int .i64 1,.int .i64 s,.int .i64 bo,.int .i64 f,.int .i64 k,.int .i64 j,.int .i64 e,.int .i64 c,.int .i64 h,.int .i64 g,.int .i64 x,.int .i64 y,.int .i64 a,.int .i64 b,.int .i64 d] (.bool true) rfl rfl rfl rfl underlying193 rfl (by kernel_rfl) (ek 14 _ rfl (by intro i l;rcases i with _|_|_|_|_|_|_|_|_|_|_|_|_|_|_|i;(go_simp);(go_simp);(go_simp);(go_simp);(go_simp);(go_simp);(go_simp);(go_simp);(go_simp);(go_simp);(go_simp);(go_simp);(go_simp);(go_simp);(go_simp);exact absurd l (by omega))) ⟨rfl,ad⟩
theorem TK(s bo f k j e c h g x y a b d:Int)(w:World):zR 241 #[frC 7 s bo f k j e c h g x y a b d] w (.tuple #[frC 7 s bo f k j e c h g x y a b d,true]):=by
 have m:Hid (True=True):=rfl;go_enter func241,ntmps241;go_wp2_with fail;exact az 15 #[.int .i64 7,.int .i64 s,.int .i64 bo,.int .i64 f,.int .i64 k,.int .i64 j,.int .i64 e,.int .i64 c,.int .i64 h,.int .i64 g,.int .i64 x,.int .i64 y,.int .i64 a,.int .i64 b,.int .i64 d] (.bool true) rfl rfl rfl rfl underlying193 rfl (by kernel_rfl) (ek 14 _ rfl (by intro i l;rcases i with _|_|_|_|_|_|_|_|_|_|_|_|_|_|_|i;(go_simp);(go_simp);(go_simp);(go_simp);(go_simp);(go_simp);(go_simp);(go_simp);(go_simp);(go_simp);(go_simp);(go_simp);(go_simp);(go_simp);(go_simp);exact absurd l (by omega))) ⟨rfl,ad⟩
theorem TJ(k s bo f l j e c h g x y a b d:Int)(t:k≠1)(n:k≠2)(o:k≠3)(u:k≠4)(p:k≠5)(q:k≠6)(r:k≠7)(w:World):zR 241 #[frC k s bo f l j e c h g x y a b d] w (.tuple #[frC k s bo f l j e c h g x y a b d,false]):=by
 go_enter func241,ntmps241;go_wp2_with fail;exact az 15 #[.int .i64 k,.int .i64 s,.int .i64 bo,.int .i64 f,.int .i64 l,.int .i64 j,.int .i64 e,.int .i64 c,.int .i64 h,.int .i64 g,.int .i64 x,.int .i64 y,.int .i64 a,.int .i64 b,.int .i64 d] (.bool false) rfl rfl rfl rfl underlying193 rfl (by kernel_rfl) (ek 14 _ rfl (by intro i m;rcases i with _|_|_|_|_|_|_|_|_|_|_|_|_|_|_|i;(go_simp);(go_simp);(go_simp);(go_simp);(go_simp);(go_simp);(go_simp);(go_simp);(go_simp);(go_simp);(go_simp);(go_simp);(go_simp);(go_simp);(go_simp);exact absurd m (by omega))) ⟨rfl,ad⟩
theorem TQ(s bo k n c h g m l x y a b d:Int)(u:Bool)(p:(nodeB c&&(decide (c≠s)))=u)(w:World):zR 241 #[frC 2 s bo k n c h g m l x y a b d] w (.tuple #[frC 2 s bo k n 0 h g m l x y a b d,u]):=by
 subst p;obtain⟨v,r⟩:∃q,nodeB c=q:=⟨_,rfl⟩;cases v
 ·have f:Hid ((nodeB c&&(decide (c≠s)))=false):=by show _=_;simp[r]
  go_enter func241,ntmps241;go_wp2_with (first|(go_at_call 242;refine Calls.mono (lr _ _ (by assumption) _) ?_;rintro e t ⟨rfl,rfl⟩))
  exact az 15 #[.int .i64 2,.int .i64 s,.int .i64 bo,.int .i64 k,.int .i64 n,.int .i64 0,.int .i64 h,.int .i64 g,.int .i64 m,.int .i64 l,.int .i64 x,.int .i64 y,.int .i64 a,.int .i64 b,.int .i64 d] (.bool false) rfl rfl rfl rfl underlying193 rfl (by kernel_rfl) (ek 14 _ rfl (by intro i j;rcases i with _|_|_|_|_|_|_|_|_|_|_|_|_|_|_|i;(go_simp);(go_simp);(go_simp);(go_simp);(go_simp);(go_simp);(go_simp);(go_simp);(go_simp);(go_simp);(go_simp);(go_simp);(go_simp);(go_simp);(go_simp);exact absurd j (by omega))) ⟨by first|(rw[f.out];done)|(rw[f.out];rfl),ad⟩
 by_cases o:c=s
 ·have f:Hid ((nodeB c&&(decide (c≠s)))=false):=by show _=_;simp[r,o]
  subst o;go_enter func241,ntmps241;go_wp2_with (first|(go_at_call 242;refine Calls.mono (lr _ _ (by assumption) _) ?_;rintro e t ⟨rfl,rfl⟩))
  exact az 15 #[.int .i64 2,.int .i64 c,.int .i64 bo,.int .i64 k,.int .i64 n,.int .i64 0,.int .i64 h,.int .i64 g,.int .i64 m,.int .i64 l,.int .i64 x,.int .i64 y,.int .i64 a,.int .i64 b,.int .i64 d] (.bool false) rfl rfl rfl rfl underlying193 rfl (by kernel_rfl) (ek 14 _ rfl (by intro i j;rcases i with _|_|_|_|_|_|_|_|_|_|_|_|_|_|_|i;(go_simp);(go_simp);(go_simp);(go_simp);(go_simp);(go_simp);(go_simp);(go_simp);(go_simp);(go_simp);(go_simp);(go_simp);(go_simp);(go_simp);(go_simp);exact absurd j (by omega))) ⟨by first|(rw[f.out];done)|(rw[f.out];rfl),ad⟩
 ·have f:Hid ((nodeB c&&(decide (c≠s)))=true):=by show _=_;simp[r,o]
  have z:(c != s)=true:=by simp[o]
  go_enter func241,ntmps241;go_wp2_with (first|(go_at_call 242;refine Calls.mono (lr _ _ (by assumption) _) ?_;rintro e t ⟨rfl,rfl⟩))
  exact az 15 #[.int .i64 2,.int .i64 s,.int .i64 bo,.int .i64 k,.int .i64 n,.int .i64 0,.int .i64 h,.int .i64 g,.int .i64 m,.int .i64 l,.int .i64 x,.int .i64 y,.int .i64 a,.int .i64 b,.int .i64 d] (.bool true) rfl rfl rfl rfl underlying193 rfl (by kernel_rfl) (ek 14 _ rfl (by intro i j;rcases i with _|_|_|_|_|_|_|_|_|_|_|_|_|_|_|i;(go_simp);(go_simp);(go_simp);(go_simp);(go_simp);(go_simp);(go_simp);(go_simp);(go_simp);(go_simp);(go_simp);(go_simp);(go_simp);(go_simp);(go_simp);exact absurd j (by omega))) ⟨by first|(rw[f.out];done)|(rw[f.out];rfl),ad⟩
theorem TP(s bo k n c g h m l x y a b d:Int)(u:Bool)(p:(nodeB c&&(decide (c≠s)&&(inFB g 4294967295)))=u)(w:World):zR 241 #[frC 3 s bo k n c g h m l x y a b d] w (.tuple #[frC 3 s bo k n 0 0 h m l x y a b d,u]):=by
 subst p;obtain⟨z,t⟩:∃q,nodeB c=q:=⟨_,rfl⟩;cases z
 ·have f:Hid ((nodeB c&&(decide (c≠s)&&(inFB g 4294967295)))=false):=by show _=_;simp[t]
  go_enter func241,ntmps241;go_wp2_with (first|(go_at_call 242;refine Calls.mono (lr _ _ (by assumption) _) ?_;rintro e r ⟨rfl,rfl⟩))
  exact az 15 #[.int .i64 3,.int .i64 s,.int .i64 bo,.int .i64 k,.int .i64 n,.int .i64 0,.int .i64 0,.int .i64 h,.int .i64 m,.int .i64 l,.int .i64 x,.int .i64 y,.int .i64 a,.int .i64 b,.int .i64 d] (.bool false) rfl rfl rfl rfl underlying193 rfl (by kernel_rfl) (ek 14 _ rfl (by intro i j;rcases i with _|_|_|_|_|_|_|_|_|_|_|_|_|_|_|i;(go_simp);(go_simp);(go_simp);(go_simp);(go_simp);(go_simp);(go_simp);(go_simp);(go_simp);(go_simp);(go_simp);(go_simp);(go_simp);(go_simp);(go_simp);exact absurd j (by omega))) ⟨by first|(rw[f.out];done)|(rw[f.out];rfl),ad⟩
 by_cases o:c=s
 ·have f:Hid ((nodeB c&&(decide (c≠s)&&(inFB g 4294967295)))=false):=by show _=_;simp[t,o]
  subst o;go_enter func241,ntmps241;go_wp2_with (first|(go_at_call 242;refine Calls.mono (lr _ _ (by assumption) _) ?_;rintro e r ⟨rfl,rfl⟩))
  exact az 15 #[.int .i64 3,.int .i64 c,.int .i64 bo,.int .i64 k,.int .i64 n,.int .i64 0,.int .i64 0,.int .i64 h,.int .i64 m,.int .i64 l,.int .i64 x,.int .i64 y,.int .i64 a,.int .i64 b,.int .i64 d] (.bool false) rfl rfl rfl rfl underlying193 rfl (by kernel_rfl) (ek 14 _ rfl (by intro i j;rcases i with _|_|_|_|_|_|_|_|_|_|_|_|_|_|_|i;(go_simp);(go_simp);(go_simp);(go_simp);(go_simp);(go_simp);(go_simp);(go_simp);(go_simp);(go_simp);(go_simp);(go_simp);(go_simp);(go_simp);(go_simp);exact absurd j (by omega))) ⟨by first|(rw[f.out];done)|(rw[f.out];rfl),ad⟩
 have A:(c != s)=true:=by simp[o]
 obtain⟨q,v⟩:∃q,inFB g 4294967295=q:=⟨_,rfl⟩;have f:Hid ((nodeB c&&(decide (c≠s)&&(inFB g 4294967295)))=q):=by show _=_;simp[t,o,v]
 go_enter func241,ntmps241;go_wp2_with (first|(go_at_call 242;refine Calls.mono (lr _ _ (by assumption) _) ?_;rintro e r ⟨rfl,rfl⟩)|(go_at_call 243;refine Calls.mono (Ie _ _ _ (by assumption) _) ?_;rintro e r ⟨rfl,rfl⟩))
 exact az 15 #[.int .i64 3,.int .i64 s,.int .i64 bo,.int .i64 k,.int .i64 n,.int .i64 0,.int .i64 0,.int .i64 h,.int .i64 m,.int .i64 l,.int .i64 x,.int .i64 y,.int .i64 a,.int .i64 b,.int .i64 d] (.bool q) rfl rfl rfl rfl underlying193 rfl (by kernel_rfl) (ek 14 _ rfl (by intro i j;rcases i with _|_|_|_|_|_|_|_|_|_|_|_|_|_|_|i;(go_simp);(go_simp);(go_simp);(go_simp);(go_simp);(go_simp);(go_simp);(go_simp);(go_simp);(go_simp);(go_simp);(go_simp);(go_simp);(go_simp);(go_simp);exact absurd j (by omega))) ⟨by first|(rw[f.out];done)|(rw[f.out];rfl),ad⟩
theorem TN(s bo m o c j h n k x y a b d:Int)(v:Bool)(t:(nodeB c&&(decide (c≠s)&&(inFB j 70368744177664&&(inFB h 70368744177664&&(inFB k 4294967295)))))=v)(w:World):zR 241 #[frC 4 s bo m o c j h n k x y a b d] w (.tuple #[frC 4 s bo m o 0 0 0 n 0 x y a b d,v]):=by
 subst t;obtain⟨D,r⟩:∃q,nodeB c=q:=⟨_,rfl⟩;cases D
 ·have f:Hid ((nodeB c&&(decide (c≠s)&&(inFB j 70368744177664&&(inFB h 70368744177664&&(inFB k 4294967295)))))=false):=by show _=_;simp[r]
  go_enter func241,ntmps241;go_wp2_with (first|(go_at_call 242;refine Calls.mono (lr _ _ (by assumption) _) ?_;rintro e l ⟨rfl,rfl⟩))
  exact az 15 #[.int .i64 4,.int .i64 s,.int .i64 bo,.int .i64 m,.int .i64 o,.int .i64 0,.int .i64 0,.int .i64 0,.int .i64 n,.int .i64 0,.int .i64 x,.int .i64 y,.int .i64 a,.int .i64 b,.int .i64 d] (.bool false) rfl rfl rfl rfl underlying193 rfl (by kernel_rfl) (ek 14 _ rfl (by intro i g;rcases i with _|_|_|_|_|_|_|_|_|_|_|_|_|_|_|i;(go_simp);(go_simp);(go_simp);(go_simp);(go_simp);(go_simp);(go_simp);(go_simp);(go_simp);(go_simp);(go_simp);(go_simp);(go_simp);(go_simp);(go_simp);exact absurd g (by omega))) ⟨by first|(rw[f.out];done)|(rw[f.out];rfl),ad⟩
 by_cases p:c=s
 ·have f:Hid ((nodeB c&&(decide (c≠s)&&(inFB j 70368744177664&&(inFB h 70368744177664&&(inFB k 4294967295)))))=false):=by show _=_;simp[r,p]
  subst p;go_enter func241,ntmps241;go_wp2_with (first|(go_at_call 242;refine Calls.mono (lr _ _ (by assumption) _) ?_;rintro e l ⟨rfl,rfl⟩))
  exact az 15 #[.int .i64 4,.int .i64 c,.int .i64 bo,.int .i64 m,.int .i64 o,.int .i64 0,.int .i64 0,.int .i64 0,.int .i64 n,.int .i64 0,.int .i64 x,.int .i64 y,.int .i64 a,.int .i64 b,.int .i64 d] (.bool false) rfl rfl rfl rfl underlying193 rfl (by kernel_rfl) (ek 14 _ rfl (by intro i g;rcases i with _|_|_|_|_|_|_|_|_|_|_|_|_|_|_|i;(go_simp);(go_simp);(go_simp);(go_simp);(go_simp);(go_simp);(go_simp);(go_simp);(go_simp);(go_simp);(go_simp);(go_simp);(go_simp);(go_simp);(go_simp);exact absurd g (by omega))) ⟨by first|(rw[f.out];done)|(rw[f.out];rfl),ad⟩
 have E:(c != s)=true:=by simp[p]
 obtain⟨A,u⟩:∃q,inFB j 70368744177664=q:=⟨_,rfl⟩;cases A
 ·have f:Hid ((nodeB c&&(decide (c≠s)&&(inFB j 70368744177664&&(inFB h 70368744177664&&(inFB k 4294967295)))))=false):=by show _=_;simp[r,p,u]
  go_enter func241,ntmps241;go_wp2_with (first|(go_at_call 242;refine Calls.mono (lr _ _ (by assumption) _) ?_;rintro e l ⟨rfl,rfl⟩)|(go_at_call 243;refine Calls.mono (Ie _ _ _ (by assumption) _) ?_;rintro e l ⟨rfl,rfl⟩))
  exact az 15 #[.int .i64 4,.int .i64 s,.int .i64 bo,.int .i64 m,.int .i64 o,.int .i64 0,.int .i64 0,.int .i64 0,.int .i64 n,.int .i64 0,.int .i64 x,.int .i64 y,.int .i64 a,.int .i64 b,.int .i64 d] (.bool false) rfl rfl rfl rfl underlying193 rfl (by kernel_rfl) (ek 14 _ rfl (by intro i g;rcases i with _|_|_|_|_|_|_|_|_|_|_|_|_|_|_|i;(go_simp);(go_simp);(go_simp);(go_simp);(go_simp);(go_simp);(go_simp);(go_simp);(go_simp);(go_simp);(go_simp);(go_simp);(go_simp);(go_simp);(go_simp);exact absurd g (by omega))) ⟨by first|(rw[f.out];done)|(rw[f.out];rfl),ad⟩
 obtain⟨B,z⟩:∃q,inFB h 70368744177664=q:=⟨_,rfl⟩;cases B
 ·have f:Hid ((nodeB c&&(decide (c≠s)&&(inFB j 70368744177664&&(inFB h 70368744177664&&(inFB k 4294967295)))))=false):=by show _=_;simp[r,p,u,z]
  go_enter func241,ntmps241;go_wp2_with (first|(go_at_call 242;refine Calls.mono (lr _ _ (by assumption) _) ?_;rintro e l ⟨rfl,rfl⟩)|(go_at_call 243;refine Calls.mono (Ie _ _ _ (by assumption) _) ?_;rintro e l ⟨rfl,rfl⟩))
  exact az 15 #[.int .i64 4,.int .i64 s,.int .i64 bo,.int .i64 m,.int .i64 o,.int .i64 0,.int .i64 0,.int .i64 0,.int .i64 n,.int .i64 0,.int .i64 x,.int .i64 y,.int .i64 a,.int .i64 b,.int .i64 d] (.bool false) rfl rfl rfl rfl underlying193 rfl (by kernel_rfl) (ek 14 _ rfl (by intro i g;rcases i with _|_|_|_|_|_|_|_|_|_|_|_|_|_|_|i;(go_simp);(go_simp);(go_simp);(go_simp);(go_simp);(go_simp);(go_simp);(go_simp);(go_simp);(go_simp);(go_simp);(go_simp);(go_simp);(go_simp);(go_simp);exact absurd g (by omega))) ⟨by first|(rw[f.out];done)|(rw[f.out];rfl),ad⟩
 obtain⟨q,C⟩:∃q,inFB k 4294967295=q:=⟨_,rfl⟩;have f:Hid ((nodeB c&&(decide (c≠s)&&(inFB j 70368744177664&&(inFB h 70368744177664&&(inFB k 4294967295)))))=q):=by show _=_;simp[r,p,u,z,C]
 go_enter func241,ntmps241;go_wp2_with (first|(go_at_call 242;refine Calls.mono (lr _ _ (by assumption) _) ?_;rintro e l ⟨rfl,rfl⟩)|(go_at_call 243;refine Calls.mono (Ie _ _ _ (by assumption) _) ?_;rintro e l ⟨rfl,rfl⟩))
 exact az 15 #[.int .i64 4,.int .i64 s,.int .i64 bo,.int .i64 m,.int .i64 o,.int .i64 0,.int .i64 0,.int .i64 0,.int .i64 n,.int .i64 0,.int .i64 x,.int .i64 y,.int .i64 a,.int .i64 b,.int .i64 d] (.bool q) rfl rfl rfl rfl underlying193 rfl (by kernel_rfl) (ek 14 _ rfl (by intro i g;rcases i with _|_|_|_|_|_|_|_|_|_|_|_|_|_|_|i;(go_simp);(go_simp);(go_simp);(go_simp);(go_simp);(go_simp);(go_simp);(go_simp);(go_simp);(go_simp);(go_simp);(go_simp);(go_simp);(go_simp);(go_simp);exact absurd g (by omega))) ⟨by first|(rw[f.out];done)|(rw[f.out];rfl),ad⟩
theorem TM(s bo r B A n m u t x y a b d:Int)(W:Bool)(J:(El.may ⟨x,y,a,b,d⟩)=W)(w:World):zR 241 #[frC 5 s bo r B A n m u t x y a b d] w (.tuple #[frC 5 s bo r B A n m u t 0 0 0 0 0,W]):=by
 subst J;obtain⟨q,g0⟩:∃q,El.may ⟨x,y,a,b,d⟩=q:=⟨_,rfl⟩;have EV:Hid ((El.may ⟨x,y,a,b,d⟩)=q):=by show _=_;simp[g0]
 go_enter Tryz.func241,Tryz.ntmps241;go_wp2_with fail;refine jj ?_;intro T h;have D:Hid (zB w T):=by rw[h];show zB w _;exact ad
 have c:Hid (Blk T w.heap.size #[.int .i64 5,s,bo,r,B,A,n,m,u,t,x,y,a,b,d] 193):=by rw[h];exact(Blk.new _ _ _).alloc _
 have C:Hid (Blk T (w.heap.size+1) #[.int .i64 0,.int .i64 0,.int .i64 0,.int .i64 0,.int .i64 0,.int .i64 0,.int .i64 0,.int .i64 0,.int .i64 0,.int .i64 0,.int .i64 0,.int .i64 0,.int .i64 0,.int .i64 0,.int .i64 0] 193):=by rw[h];exact Blk.new' _ _ _ (by simp)
 clear h;refine Calls.mono (I2 _ _ _ _ _ _ (by assumption) _) ?_;rintro e w1 ⟨rfl,E⟩;replace c:=Kp c E;replace C:=Kp C E;replace D:=Tp D E;clear E;have F:=c.out.cell (i:=0) rfl;have L:=c.out.cell (i:=1) rfl;have I:=c.out.cell (i:=2) rfl;have S:=c.out.cell (i:=3) rfl;have G:=c.out.cell (i:=4) rfl;have M:=c.out.cell (i:=5) rfl;have O:=c.out.cell (i:=6) rfl;have K:=c.out.cell (i:=7) rfl;have Q:=c.out.cell (i:=8) rfl;have N:=c.out.cell (i:=9) rfl;have l:=c.out.cell (i:=10) rfl;have o:=c.out.cell (i:=11) rfl;have p:=c.out.cell (i:=12) rfl;have v:=c.out.cell (i:=13) rfl;have z:=c.out.cell (i:=14) rfl;have l0:=c.out.lt;have f0:=c.out.frozen;have H:=c.out.fits 15 (by simp);go_upto_region 21 with fail
 refine eN ?_;intro j g;have U:Hid (Blk j w.heap.size #[.int .i64 5,s,bo,r,B,A,n,m,u,t,.int .i64 0,.int .i64 0,.int .i64 0,.int .i64 0,.int .i64 0] 193):=by rw[g];exact Blk.of_eq ((((((c.out.ab 10 _).ab 11 _).ab 12 _).ab 13 _).ab 14 _)) (by simp)
 have V:Hid (Blk j (w.heap.size+1) #[.int .i64 0,.int .i64 0,.int .i64 0,.int .i64 0,.int .i64 0,.int .i64 0,.int .i64 0,.int .i64 0,.int .i64 0,.int .i64 0,.int .i64 0,.int .i64 0,.int .i64 0,.int .i64 0,.int .i64 0] 193):=by rw[g];exact(((((C.out.ac (by simp) _).ac (by simp) _).ac (by simp) _).ac (by simp) _).ac (by simp) _)
 have a0:Hid (zB w j):=by rw[g];exact(((((D.out.setCell (Nat.le_refl _) _).setCell (Nat.le_refl _) _).setCell (Nat.le_refl _) _).setCell (Nat.le_refl _) _).setCell (Nat.le_refl _) _)
 clear g F L I S G M O K Q N l o p v z l0 f0 H c C D;obtain⟨k,f⟩:∃R:Array Value,R=#[.int .i64 5,.int .i64 s,.int .i64 bo,.int .i64 r,.int .i64 B,.int .i64 A,.int .i64 n,.int .i64 m,.int .i64 u,.int .i64 t,.int .i64 0,.int .i64 0,.int .i64 0,.int .i64 0,.int .i64 0]:=⟨_,rfl⟩;have Z:j.row? w.heap.size 0 15=some k:=by rw[f];exact U.out.row?_all 15 rfl
 have P:j.put? (w.heap.size+1) 0 k=some (j.putRow (w.heap.size+1) 0 k):=V.out.put? 0 k (by rw[f];simp) (by rw[f];exact LF _ _ _ _ _ _ _ _ _ _ _ _ _ _ _);have Y:k.size=15:=by rw[f];rfl
 have X:=Lh f;clear f;have l2:=U.out.lt;have l3:=V.out.lt;go_wp2_with fail;exact az 15 k (.bool q) rfl rfl rfl rfl Tryz.underlying193 rfl (by kernel_rfl) (cP P (by rw[X.out];rfl)) ⟨by rw[X.out,EV.out],ad⟩
theorem TL(s bo o g r n m f p x y a b d:Int)(ok:Bool)(O:(nodeB f&&(decide (f≠s)&&(inFB p g&&(El.may ⟨x,y,a,b,d⟩))))=ok)(w:World):zR 241 #[frC 6 s bo o g r n m f p x y a b d] w (.tuple #[frC 6 s bo o g r n m 0 0 0 0 0 0 0,ok]):=by
 subst O;obtain⟨q0,J⟩:∃q,nodeB f=q:=⟨_,rfl⟩;cases q0
 ·have j:Hid ((nodeB f&&(decide (f≠s)&&(inFB p g&&(El.may ⟨x,y,a,b,d⟩))))=false):=by show _=_;simp[J]
  go_enter func241,ntmps241;go_wp2_with (first|(go_at_call 242;refine Calls.mono (lr _ _ (by assumption) _) ?_;rintro e u ⟨rfl,rfl⟩))
  exact az 15 #[.int .i64 6,.int .i64 s,.int .i64 bo,.int .i64 o,.int .i64 g,.int .i64 r,.int .i64 n,.int .i64 m,.int .i64 0,.int .i64 0,.int .i64 0,.int .i64 0,.int .i64 0,.int .i64 0,.int .i64 0] (.bool false) rfl rfl rfl rfl underlying193 rfl (by kernel_rfl) (ek 14 _ rfl (by intro i A;rcases i with _|_|_|_|_|_|_|_|_|_|_|_|_|_|_|i;(go_simp);(go_simp);(go_simp);(go_simp);(go_simp);(go_simp);(go_simp);(go_simp);(go_simp);(go_simp);(go_simp);(go_simp);(go_simp);(go_simp);(go_simp);exact absurd A (by omega))) ⟨by first|(rw[j.out];done)|(rw[j.out];rfl),ad⟩
 by_cases D:f=s
 ·have j:Hid ((nodeB f&&(decide (f≠s)&&(inFB p g&&(El.may ⟨x,y,a,b,d⟩))))=false):=by show _=_;simp[J,D]
  subst D;go_enter func241,ntmps241;go_wp2_with (first|(go_at_call 242;refine Calls.mono (lr _ _ (by assumption) _) ?_;rintro e u ⟨rfl,rfl⟩))
  exact az 15 #[.int .i64 6,.int .i64 f,.int .i64 bo,.int .i64 o,.int .i64 g,.int .i64 r,.int .i64 n,.int .i64 m,.int .i64 0,.int .i64 0,.int .i64 0,.int .i64 0,.int .i64 0,.int .i64 0,.int .i64 0] (.bool false) rfl rfl rfl rfl underlying193 rfl (by kernel_rfl) (ek 14 _ rfl (by intro i A;rcases i with _|_|_|_|_|_|_|_|_|_|_|_|_|_|_|i;(go_simp);(go_simp);(go_simp);(go_simp);(go_simp);(go_simp);(go_simp);(go_simp);(go_simp);(go_simp);(go_simp);(go_simp);(go_simp);(go_simp);(go_simp);exact absurd A (by omega))) ⟨by first|(rw[j.out];done)|(rw[j.out];rfl),ad⟩
 have gn:(f != s)=true:=by simp[D]
 obtain⟨q2,Z⟩:∃q,inFB p g=q:=⟨_,rfl⟩;cases q2
 ·have j:Hid ((nodeB f&&(decide (f≠s)&&(inFB p g&&(El.may ⟨x,y,a,b,d⟩))))=false):=by show _=_;simp[J,D,Z]
  go_enter func241,ntmps241;go_wp2_with (first|(go_at_call 242;refine Calls.mono (lr _ _ (by assumption) _) ?_;rintro e u ⟨rfl,rfl⟩)|(go_at_call 243;refine Calls.mono (Ie _ _ _ (by assumption) _) ?_;rintro e u ⟨rfl,rfl⟩))
  exact az 15 #[.int .i64 6,.int .i64 s,.int .i64 bo,.int .i64 o,.int .i64 g,.int .i64 r,.int .i64 n,.int .i64 m,.int .i64 0,.int .i64 0,.int .i64 0,.int .i64 0,.int .i64 0,.int .i64 0,.int .i64 0] (.bool false) rfl rfl rfl rfl underlying193 rfl (by kernel_rfl) (ek 14 _ rfl (by intro i A;rcases i with _|_|_|_|_|_|_|_|_|_|_|_|_|_|_|i;(go_simp);(go_simp);(go_simp);(go_simp);(go_simp);(go_simp);(go_simp);(go_simp);(go_simp);(go_simp);(go_simp);(go_simp);(go_simp);(go_simp);(go_simp);exact absurd A (by omega))) ⟨by first|(rw[j.out];done)|(rw[j.out];rfl),ad⟩
 obtain⟨q,g3⟩:∃q,El.may ⟨x,y,a,b,d⟩=q:=⟨_,rfl⟩;have j:Hid ((nodeB f&&(decide (f≠s)&&(inFB p g&&(El.may ⟨x,y,a,b,d⟩))))=q):=by show _=_;simp[J,D,Z,g3]
 go_enter func241,ntmps241;go_wp2_with (first|(go_at_call 242;refine Calls.mono (lr _ _ (by assumption) _) ?_;rintro e u ⟨rfl,rfl⟩)|(go_at_call 243;refine Calls.mono (Ie _ _ _ (by assumption) _) ?_;rintro e u ⟨rfl,rfl⟩))
 refine jj ?_;intro Y l;have H:Hid (zB w Y):=by rw[l];show zB w _;exact ad
 have c:Hid (Blk Y w.heap.size #[.int .i64 6,s,bo,o,g,r,n,m,f,p,x,y,a,b,d] 193):=by rw[l];exact(Blk.new _ _ _).alloc _
 have G:Hid (Blk Y (w.heap.size+1) #[.int .i64 0,.int .i64 0,.int .i64 0,.int .i64 0,.int .i64 0,.int .i64 0,.int .i64 0,.int .i64 0,.int .i64 0,.int .i64 0,.int .i64 0,.int .i64 0,.int .i64 0,.int .i64 0,.int .i64 0] 193):=by rw[l];exact Blk.new' _ _ _ (by simp)
 clear l;refine Calls.mono (I2 _ _ _ _ _ _ (by assumption) _) ?_;rintro e u ⟨rfl,I⟩;replace c:=Kp c I;replace G:=Kp G I;replace H:=Tp H I;clear I;have K:=c.out.cell (i:=0) rfl;have Q:=c.out.cell (i:=1) rfl;have N:=c.out.cell (i:=2) rfl;have X:=c.out.cell (i:=3) rfl;have L:=c.out.cell (i:=4) rfl;have S:=c.out.cell (i:=5) rfl;have U:=c.out.cell (i:=6) rfl;have P:=c.out.cell (i:=7) rfl;have W:=c.out.cell (i:=8) rfl;have T:=c.out.cell (i:=9) rfl;have z:=c.out.cell (i:=10) rfl;have B:=c.out.cell (i:=11) rfl;have C:=c.out.cell (i:=12) rfl;have E:=c.out.cell (i:=13) rfl;have F:=c.out.cell (i:=14) rfl;have l0:=c.out.lt;have f0:=c.out.frozen;have M:=c.out.fits 15 (by simp);go_upto_region 21 with fail
 refine eN ?_;intro t k;have B2:Hid (Blk t w.heap.size #[.int .i64 6,s,bo,o,g,r,n,m,.int .i64 0,.int .i64 0,.int .i64 0,.int .i64 0,.int .i64 0,.int .i64 0,.int .i64 0] 193):=by rw[k];exact Blk.of_eq ((((((((c.out.ab 8 _).ab 9 _).ab 10 _).ab 11 _).ab 12 _).ab 13 _).ab 14 _)) (by simp)
 have B3:Hid (Blk t (w.heap.size+1) #[.int .i64 0,.int .i64 0,.int .i64 0,.int .i64 0,.int .i64 0,.int .i64 0,.int .i64 0,.int .i64 0,.int .i64 0,.int .i64 0,.int .i64 0,.int .i64 0,.int .i64 0,.int .i64 0,.int .i64 0] 193):=by rw[k];exact(((((((G.out.ac (by simp) _).ac (by simp) _).ac (by simp) _).ac (by simp) _).ac (by simp) _).ac (by simp) _).ac (by simp) _)
 have a2:Hid (zB w t):=by rw[k];exact(((((((H.out.setCell (Nat.le_refl _) _).setCell (Nat.le_refl _) _).setCell (Nat.le_refl _) _).setCell (Nat.le_refl _) _).setCell (Nat.le_refl _) _).setCell (Nat.le_refl _) _).setCell (Nat.le_refl _) _)
 clear k K Q N X L S U P W T z B C E F l0 f0 M c G H;obtain⟨v,h⟩:∃R:Array Value,R=#[.int .i64 6,.int .i64 s,.int .i64 bo,.int .i64 o,.int .i64 g,.int .i64 r,.int .i64 n,.int .i64 m,.int .i64 0,.int .i64 0,.int .i64 0,.int .i64 0,.int .i64 0,.int .i64 0,.int .i64 0]:=⟨_,rfl⟩;have a1:t.row? w.heap.size 0 15=some v:=by rw[h];exact B2.out.row?_all 15 rfl
 have V:t.put? (w.heap.size+1) 0 v=some (t.putRow (w.heap.size+1) 0 v):=B3.out.put? 0 v (by rw[h];simp) (by rw[h];exact LF _ _ _ _ _ _ _ _ _ _ _ _ _ _ _);have a0:v.size=15:=by rw[h];rfl
 have HR:=Lh h;clear h;have l2:=B2.out.lt;have l3:=B3.out.lt;go_wp2_with fail;exact az 15 v (.bool q) rfl rfl rfl rfl underlying193 rfl (by kernel_rfl) (cP V (by rw[HR.out];rfl)) ⟨by rw[HR.out,j.out],ad⟩
def pl(f:FrD):Bool:=
 (restF f).2&&(nodeB f.src&&(inFB f.boot 65535&&(inFB f.seq 65535&&(inFB f.stamp 1000000&&(decide ((restF f).1.dst=0)&&(decide ((restF f).1.t1=0)&&(decide ((restF f).1.t2=0)&&(decide ((restF f).1.who=0)&&(decide ((restF f).1.when=0) &&
  decide ((restF f).1.x=0/\(restF f).1.y=0/\(restF f).1.a=0/\(restF f).1.b=0/\(restF f).1.d=0))))))))))
theorem Hq(f g:FrD)(n:Bool)(h:restF f=(g,n))(w:World):zR 241 #[frV f] w (.tuple #[frV g,n]):=by
 obtain⟨k,s,bo,r,z,v,q,p,u,t,x,y,a,b,d⟩:=f;unfold restF at h;simp only[FrD.el] at h;by_cases o:k=1
 ·subst o;simp only[true_or,if_true,Prod.mk.injEq] at h;obtain⟨rfl,rfl⟩:=h;exact TR _ _ _ _ _ _ _ _ _ _ _ _ _ _ _
 by_cases m:k=7
 ·subst m;simp only[or_true,if_true,Prod.mk.injEq] at h;obtain⟨rfl,rfl⟩:=h;exact TK _ _ _ _ _ _ _ _ _ _ _ _ _ _ _
 rw[if_neg (by omega)] at h;by_cases c:k=2
 ·subst c;rw[if_pos rfl,Prod.mk.injEq] at h;obtain⟨rfl,h⟩:=h;exact TQ _ _ _ _ _ _ _ _ _ _ _ _ _ _ _ h _
 rw[if_neg c] at h;by_cases e:k=3
 ·subst e;rw[if_pos rfl,Prod.mk.injEq] at h;obtain⟨rfl,h⟩:=h;exact TP _ _ _ _ _ _ _ _ _ _ _ _ _ _ _ h _
 rw[if_neg e] at h;by_cases l:k=4
 ·subst l;rw[if_pos rfl,Prod.mk.injEq] at h;obtain⟨rfl,h⟩:=h;exact TN _ _ _ _ _ _ _ _ _ _ _ _ _ _ _ h _
 rw[if_neg l] at h;by_cases i:k=5
 ·subst i;rw[if_pos rfl,Prod.mk.injEq] at h;obtain⟨rfl,h⟩:=h;exact TM _ _ _ _ _ _ _ _ _ _ _ _ _ _ _ h _
 rw[if_neg i] at h;by_cases j:k=6
 ·subst j;rw[if_pos rfl,Prod.mk.injEq] at h;obtain⟨rfl,h⟩:=h;exact TL _ _ _ _ _ _ _ _ _ _ _ _ _ _ _ h _
 rw[if_neg j,Prod.mk.injEq] at h;obtain⟨rfl,rfl⟩:=h;exact TJ _ _ _ _ _ _ _ _ _ _ _ _ _ _ _ o c e l i j m _
theorem LT(k s bo i h o l j n m x y a b d:Int)(w:World):zR 181 #[frC k s bo i h o l j n m x y a b d] w (.bool (pl ⟨k,s,bo,i,h,o,l,j,n,m,x,y,a,b,d⟩)):=by
 obtain⟨G,M⟩:∃q,nodeB s=q:=⟨_,rfl⟩;obtain⟨N,H⟩:∃q,inFB bo 65535=q:=⟨_,rfl⟩;obtain⟨L,I⟩:∃q,inFB i 65535=q:=⟨_,rfl⟩;obtain⟨K,O⟩:∃q,inFB h 1000000=q:=⟨_,rfl⟩;obtain⟨V,v⟩:∃z,restF ⟨k,s,bo,i,h,o,l,j,n,m,x,y,a,b,d⟩=z:=⟨_,rfl⟩;obtain⟨⟨Y,Z,S,T,X,C,F,A,D,B,P,Q,W,U,R⟩,J⟩:=V
 have E:pl ⟨k,s,bo,i,h,o,l,j,n,m,x,y,a,b,d⟩=(J&&(G&&(N&&(L&&(K&&(decide (C=0)&&(decide (F=0)&&(decide (A=0)&&(decide (D=0)&&(decide (B=0)&&decide (P=0/\Q=0/\W=0/\U=0/\R=0))))))))))):=by
  unfold pl;rw[v,M,H,I,O]
 have t:=Lh v;clear v;cases J
 ·have p:Hid (pl ⟨k,s,bo,i,h,o,l,j,n,m,x,y,a,b,d⟩=false):=by show _=_;rw[E];simp
  clear E;go_enter func181,ntmps181;go_wp2_with fail;refine Calls.mono (Hq ⟨k,s,bo,i,h,o,l,j,n,m,x,y,a,b,d⟩ _ _ t.out _) ?_;rintro e u ⟨rfl,f⟩;have c:=f.size;(try simp at c);have g:=bq f (w.heap.size);go_wp2_with (first|(go_at_call 242;refine Calls.mono (lr _ _ (by assumption) _) ?_;rintro e r ⟨rfl,rfl⟩)|(go_at_call 243;refine Calls.mono (Ie _ _ _ (by assumption) _) ?_;rintro e r ⟨rfl,rfl⟩))
  go_ret;exact⟨by rw[p.out];rfl,ad⟩
 cases G
 ·have p:Hid (pl ⟨k,s,bo,i,h,o,l,j,n,m,x,y,a,b,d⟩=false):=by show _=_;rw[E];simp
  clear E;go_enter func181,ntmps181;go_wp2_with fail;refine Calls.mono (Hq ⟨k,s,bo,i,h,o,l,j,n,m,x,y,a,b,d⟩ _ _ t.out _) ?_;rintro e u ⟨rfl,f⟩;have c:=f.size;(try simp at c);have g:=bq f (w.heap.size);go_wp2_with (first|(go_at_call 242;refine Calls.mono (lr _ _ (by assumption) _) ?_;rintro e r ⟨rfl,rfl⟩)|(go_at_call 243;refine Calls.mono (Ie _ _ _ (by assumption) _) ?_;rintro e r ⟨rfl,rfl⟩))
  go_ret;exact⟨by rw[p.out];rfl,ad⟩
 cases N
 ·have p:Hid (pl ⟨k,s,bo,i,h,o,l,j,n,m,x,y,a,b,d⟩=false):=by show _=_;rw[E];simp
  clear E;go_enter func181,ntmps181;go_wp2_with fail;refine Calls.mono (Hq ⟨k,s,bo,i,h,o,l,j,n,m,x,y,a,b,d⟩ _ _ t.out _) ?_;rintro e u ⟨rfl,f⟩;have c:=f.size;(try simp at c);have g:=bq f (w.heap.size);go_wp2_with (first|(go_at_call 242;refine Calls.mono (lr _ _ (by assumption) _) ?_;rintro e r ⟨rfl,rfl⟩)|(go_at_call 243;refine Calls.mono (Ie _ _ _ (by assumption) _) ?_;rintro e r ⟨rfl,rfl⟩))
  go_ret;exact⟨by rw[p.out];rfl,ad⟩
 cases L
 ·have p:Hid (pl ⟨k,s,bo,i,h,o,l,j,n,m,x,y,a,b,d⟩=false):=by show _=_;rw[E];simp
  clear E;go_enter func181,ntmps181;go_wp2_with fail;refine Calls.mono (Hq ⟨k,s,bo,i,h,o,l,j,n,m,x,y,a,b,d⟩ _ _ t.out _) ?_;rintro e u ⟨rfl,f⟩;have c:=f.size;(try simp at c);have g:=bq f (w.heap.size);go_wp2_with (first|(go_at_call 242;refine Calls.mono (lr _ _ (by assumption) _) ?_;rintro e r ⟨rfl,rfl⟩)|(go_at_call 243;refine Calls.mono (Ie _ _ _ (by assumption) _) ?_;rintro e r ⟨rfl,rfl⟩))
  go_ret;exact⟨by rw[p.out];rfl,ad⟩
 cases K
 ·have p:Hid (pl ⟨k,s,bo,i,h,o,l,j,n,m,x,y,a,b,d⟩=false):=by show _=_;rw[E];simp
  clear E;go_enter func181,ntmps181;go_wp2_with fail;refine Calls.mono (Hq ⟨k,s,bo,i,h,o,l,j,n,m,x,y,a,b,d⟩ _ _ t.out _) ?_;rintro e u ⟨rfl,f⟩;have c:=f.size;(try simp at c);have g:=bq f (w.heap.size);go_wp2_with (first|(go_at_call 242;refine Calls.mono (lr _ _ (by assumption) _) ?_;rintro e r ⟨rfl,rfl⟩)|(go_at_call 243;refine Calls.mono (Ie _ _ _ (by assumption) _) ?_;rintro e r ⟨rfl,rfl⟩))
  go_ret;exact⟨by rw[p.out];rfl,ad⟩
 have p:=Lh E;clear E;go_enter func181,ntmps181;go_wp2_with fail;refine Calls.mono (Hq ⟨k,s,bo,i,h,o,l,j,n,m,x,y,a,b,d⟩ _ _ t.out _) ?_;rintro e u ⟨rfl,f⟩;have c:=f.size;(try simp at c);have g:=bq f (w.heap.size);go_wp2_with (first|(go_at_call 242;refine Calls.mono (lr _ _ (by assumption) _) ?_;rintro e r ⟨rfl,rfl⟩)|(go_at_call 243;refine Calls.mono (Ie _ _ _ (by assumption) _) ?_;rintro e r ⟨rfl,rfl⟩))
 all_goals go_ret
 all_goals refine⟨?_,ad⟩
 all_goals rw[p.out]
 all_goals clear t p M H I O f c g
 all_goals refine congrArg (fun z=>Ending.returned (Value.bool z)) ?_
 all_goals simp[*]
theorem DO(f:FrD)(m:Bool)(h:pl f=m)(w:World):zR 181 #[frV f] w (.bool m):=by
 rw[<-h];exact LT _ _ _ _ _ _ _ _ _ _ _ _ _ _ _ w
def flw(wd:Nat)(L:List Int)(j:Nat):List Nat:=(L.take j).flatMap (be wd)
theorem Ij(wd:Nat)(L:List Int)(j:Nat)(h:j<L.length):flw wd L (j+1)=flw wd L j++be wd (L.getD j 0):=by
 unfold flw;rw[List.take_add_one,List.flatMap_append,List.getElem?_eq_getElem h,List.getD_eq_getElem?_getD,List.getElem?_eq_getElem h];simp
theorem LU(wd:Nat)(L:List Int)(j:Nat)(h:j<=L.length):(flw wd L j).length=j*wd:=by
 induction j with
 | zero=>simp[flw]
 | succ j a=>rw[Ij wd L j (by omega),List.length_append,a (by omega),gF,Nat.succ_mul]
def Cb(f:FrD):List Nat:=
 [97,108,105,49]++flw 1 [f.kind,f.src,f.dst,f.who] 4++be 2 f.boot++be 2 f.seq++flw 8 [f.stamp,f.t1,f.t2,f.when] 4++be 4 f.x++be 4 f.y++flw 8 [f.a,f.b,f.d] 3
def nt(f:FrD):List Nat:=Cb f++be 4 (crc (Cb f))
theorem Qh(w:World)(C:Array Value)(n c:Nat):Sem.run prog (convert 36 36 (.slice (some ⟨w.heap.size,0,none⟩) n c)) (w.alloc (.cells C 5))=.ok (.slice (some ⟨w.heap.size,0,none⟩) n c) (w.alloc (.cells C 5 (C.size,C.size+1))):=
 Go.Lib.run_convert_bytes_const w 36 5 C n c underlying36 underlying5
theorem RS(a b c d:Int)(w:World):Sem.run prog (Instr.index 252 (.agg #[a,b,c,d]) (.int .i64 0)) w=.ok (.int .i64 a) w/\Sem.run prog (Instr.index 252 (.agg #[a,b,c,d]) (.int .i64 1)) w=.ok (.int .i64 b) w/\
  Sem.run prog (Instr.index 252 (.agg #[a,b,c,d]) (.int .i64 2)) w=.ok (.int .i64 c) w/\Sem.run prog (Instr.index 252 (.agg #[a,b,c,d]) (.int .i64 3)) w=.ok (.int .i64 d) w:=⟨rfl,rfl,rfl,rfl⟩
theorem KM(a b c d:Int)(w:World):Sem.run prog (Instr.index 254 (.agg #[a,b,c,d]) (.int .i64 0)) w=.ok (.int .i64 a) w/\Sem.run prog (Instr.index 254 (.agg #[a,b,c,d]) (.int .i64 1)) w=.ok (.int .i64 b) w/\
  Sem.run prog (Instr.index 254 (.agg #[a,b,c,d]) (.int .i64 2)) w=.ok (.int .i64 c) w/\Sem.run prog (Instr.index 254 (.agg #[a,b,c,d]) (.int .i64 3)) w=.ok (.int .i64 d) w:=⟨rfl,rfl,rfl,rfl⟩
theorem Ud(a b c:Int)(w:World):Sem.run prog (Instr.index 255 (.agg #[a,b,c]) (.int .i64 0)) w=.ok (.int .i64 a) w/\Sem.run prog (Instr.index 255 (.agg #[a,b,c]) (.int .i64 1)) w=.ok (.int .i64 b) w/\
  Sem.run prog (Instr.index 255 (.agg #[a,b,c]) (.int .i64 2)) w=.ok (.int .i64 c) w:=⟨rfl,rfl,rfl⟩
theorem om.lit{w:World}(B:Nat)(l:List Nat)(d:Byt l)(fz:Nat×Nat):om (w.alloc (Obj.cells (l.map fun (c:Nat)=>Value.int .u8 (c:Int)).toArray 5 fz)) B (.slice (some ⟨w.heap.size,0,none⟩) l.length l.length) l:=by
 refine .inr ⟨d,w.heap.size,rfl,by simp,fun j a=>?_⟩;have b:(w.alloc (Obj.cells (l.map fun (c:Nat)=>Value.int .u8 (c:Int)).toArray 5 fz)).heap[w.heap.size]?=some (Obj.cells (l.map fun (c:Nat)=>Value.int .u8 (c:Int)).toArray 5 fz):=heap_alloc_new w _;rw[cell_of_row _ _ j _ _ _ b,List.getElem?_toArray,List.getElem?_map,List.getElem?_eq_getElem a,List.getD_eq_getElem?_getD,List.getElem?_eq_getElem a];rfl
theorem PY(k s bo j o n i g m l x y a b d:Int)(p:pl ⟨k,s,bo,j,o,n,i,g,m,l,x,y,a,b,d⟩=false)(w:World):zR 131 #[frC k s bo j o n i g m l x y a b d] w (.tuple #[.slice none 0 0,.int .i64 1]):=by
 go_enter func131,ntmps131;go_wp2_with fail;refine Calls.mono (DO ⟨k,s,bo,j,o,n,i,g,m,l,x,y,a,b,d⟩ _ p _) ?_;rintro e q ⟨rfl,c⟩;have f:=c.size;(try simp at f);have h:=bq c (w.heap.size);go_wp2_with fail;go_ret2
 exact⟨rfl,ad⟩
theorem ze{B:Nat}{w w':World}(h:Below B w.drew w'):Below B w w':=⟨h.os,h.tape,h.output,h.size,h.block⟩
theorem RA(q c:Nat)(a:c<256):256*q|||c=256*q+c:=by
 have:=Nat.two_pow_add_eq_or_of_lt (i:=8) (b:=c) (by exact a) q;exact this.symm
theorem Hv(n:Int):IntKind.i64.wrap n=wrap64 n:=IntWalk.i64_left n
theorem Vo(X:Int)(c:Nat)(b:c<256):bits .or .i64 (wrap64 (X*256)) (c:Int)=wrap64 (X*256+c):=by
 have d:(BitVec.ofInt 64 (c:Int)).toNat=c:=by
  rw[BitVec.ofInt_natCast,BitVec.toNat_ofNat];exact Nat.mod_eq_of_lt (by omega)
 obtain⟨q,a⟩:∃q:Nat,((X*256)%18446744073709551616)=((256*q:Nat):Int):=⟨(X%72057594037927936).toNat,by omega⟩
 have f:(BitVec.ofInt 64 (wrap64 (X*256))).toNat=256*q:=by
  rw[BitVec.toNat_ofInt]
  have:wrap64 (X*256)%((2^64:Nat):Int)=((256*q:Nat):Int):=by
   rw[<-a];unfold wrap64;show((X*256+9223372036854775808)%18446744073709551616-9223372036854775808)%18446744073709551616=_;omega
  rw[this];rfl
 show IntKind.i64.wrap ((BitVec.ofInt 64 (wrap64 (X*256))|||BitVec.ofInt 64 (c:Int)).toNat:Int)=_;rw[BitVec.toNat_or,f,d,RA q c b,Hv];have e:((256*q+c:Nat):Int)=(X*256)%18446744073709551616+(c:Int):=by rw[a];omega
 rw[e];unfold wrap64;omega
theorem MC(s:Int)(c:Int):wrap64 (wrap64 s*256+c)=wrap64 (s*256+c):=by unfold wrap64;omega
theorem RI(l:List Nat)(k:Nat)(h:k<l.length):nb (l.take (k+1))=nb (l.take k)*256+l.getD k 0:=by
 unfold nb;rw[List.take_add_one,List.foldl_append,List.getElem?_eq_getElem h,List.getD_eq_getElem?_getD,List.getElem?_eq_getElem h];rfl
theorem Mt(g:Nat)(v:Value)(l:List Nat)(wd:Nat)(h0:0<wd)(V:wd<=l.length)(hl:l.length<=1000000)(w:World)(B:Blk w g #[v] 341)(h:RdB w v l):Calls prog 249 #[.pointer (some ⟨g,0,none⟩),.int .i64 (wd:Int)] w fun e N=>(∃P,e=.returned (.int .i64 (wrap64 (nb (l.take wd))))/\Blk N g #[P] 341/\RdB N P (l.drop wd))/\ah g w N:=by
 obtain⟨J,ao,D,rfl,K,H⟩:=h;obtain⟨b,o,rfl,-,-⟩:=H 0 (by omega)
 have y:Hid (∀j,j<l.length->b<w.heap.size/\w.cell? ⟨b,o+j,none⟩=some (.int .u8 ((l.getD j 0:Nat):Int))):=by
  intro j z;obtain⟨b',o',e,x,U⟩:=H j z;cases e;exact⟨x,U⟩
 have Z:b≠g:=by
  rintro rfl;have x:=(y.out 0 (by omega)).2;rw[B.at] at x;rcases o with _|o
  ·cases x
  ·rw[Array.getElem?_eq_none (by simp)] at x;cases x
 have L:=Lh (Ld J);have E:=Lh J;have c0:w.cell? ⟨g,0,none⟩=some (.slice (some ⟨b,o,none⟩) l.length D):=B.cell rfl;have l0:=B.lt;have f0:=B.frozen;have Q:=Lh B;obtain⟨n,G⟩:∃n,l.length=n:=⟨_,rfl⟩;rw[G] at V hl K y c0 Q;have r:=Lh (fun k (hk:k<n)=>RI l k (by omega));obtain⟨X,R⟩:∃f:Nat->Nat,f=fun j=>l.getD j 0:=⟨_,rfl⟩;obtain⟨S,O⟩:∃f:Nat->Nat,f=fun j=>nb (l.take j):=⟨_,rfl⟩;have t:Hid (∀j,l.getD j 0=X j):=fun j=>by rw[R]
 have d:Hid (∀j,nb (l.take j)=S j):=fun j=>by rw[O]
 have M:=Lh G;clear H R O B G J;go_enter func249,ntmps249;go_wp2_with fail;go_loopw [5,15] (fun t5 q wr=>∃k:Nat,k<=wd/\q=.int .i64 k/\t5=.int .i64 (wrap64 ((S k:Nat):Int))/\wr=w) (fun _ q _=>wd-(intOf q).toNat)
 case atStart=>exact⟨0,by omega,rfl,by rw[<-d.out];simp[nb,wrap64],rfl⟩
 case round=>
  obtain⟨k,hk,rfl,rfl,rfl⟩:=hrel;by_cases Y:k<wd
  ·have i:=(y.out k (by omega)).2;have p:=L.out k;have a:=r.out k (by omega);rw[t.out] at i p a;rw[d.out,d.out] at a;obtain⟨s,C⟩:∃s,s=S k:=⟨_,rfl⟩;obtain⟨c,F⟩:∃c,c=X k:=⟨_,rfl⟩;rw[<-F] at i p a;rw[<-C] at a ⊢;have a:=Lh a;have I:=Vo (wrap64 (s:Int)) c p;rw[MC] at I;have W:=Lh I;clear L E r t d C F y I;go_wp2_with fail;go_roundw
   case rel=>exact⟨k+1,by omega,by go_num,by rw[W.out,a.out];rfl,trivial⟩
   case measure=>first|(simp[intOf];done)|(simp[intOf];omega)
  ·have h8:k=wd:=by omega
   subst h8;have A:=Lh (d.out k);obtain⟨s,C⟩:∃s,s=S k:=⟨_,rfl⟩;rw[<-C] at A ⊢;have T:(k:Int)<=(n:Int):=by omega
   have a0:(k:Int)<=(D:Int):=by omega
   clear L r t d C;go_wp2_with fail;all_goals go_ret
   all_goals have m:∀j,k+j<n->∀u,(wr.setCell ⟨g,0,none⟩ u).cell? ⟨b,o+(k+j),none⟩=some (.int .u8 ((l.getD (k+j) 0:Nat):Int)):=fun j z u=>by rw[World.cell?_setCell_other _ _ _ _ (by simp)];exact(y.out (k+j) z).2
   all_goals refine⟨⟨by rw[A.out];rfl,_,(Q.out.ab 0 _),?_⟩,ah.refl.setCell 0 _⟩
   all_goals refine⟨fun c K=>E.out c (List.mem_of_mem_drop K),some ⟨b,_,none⟩,_,by rw[List.length_drop,M.out],by rw[List.length_drop,M.out];omega,fun j z=>?_⟩
   all_goals rw[List.length_drop,M.out] at z
   ·exfalso;omega
   ·refine⟨b,_,rfl,by rw[World.size_setCell];exact(y.out (k+j) (by omega)).1,?_⟩;rw[Nat.add_assoc,m j (by omega)];congr 3
    rw[List.getD_eq_getElem?_getD,List.getD_eq_getElem?_getD,List.getElem?_drop]
theorem Rb(g:Nat)(v:Value)(l:List Nat)(d:4<=l.length)(i:l.length<=1000000)(w:World)(B:Blk w g #[v] 341)(h:RdB w v l):Calls prog 250 #[.pointer (some ⟨g,0,none⟩)] w fun e b=>(∃a,e=.returned (.int .i64 (wrap32 (nb (l.take 4))))/\Blk b g #[a] 341/\RdB b a (l.drop 4))/\ah g w b:=by
 go_enter func250,ntmps250;go_wp2_with fail;refine Calls.mono (Mt g v l 4 (by decide) d i _ B h) ?_;rintro e k ⟨⟨a,rfl,j,f⟩,c⟩;go_wp2_with fail;go_ret;refine⟨⟨a,?_,j,f⟩,c⟩;refine congrArg (fun z=>Ending.returned (Value.int .i64 z)) ?_;show wrap64 (wrap32 (wrap64 _))=wrap32 _;unfold wrap64 wrap32;omega
end Go.Proofs.YtechbdnhalmobaaGreatDoor
