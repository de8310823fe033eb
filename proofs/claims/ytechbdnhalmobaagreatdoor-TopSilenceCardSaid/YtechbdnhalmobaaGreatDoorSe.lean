/- Walks. -/
import Derived.Test.YtechbdnhalmobaaGreatDoorC0
import Derived.Deep.OwnRows
import Derived.Laws.OwnMore
namespace Go.Proofs.YtechbdnhalmobaaGreatDoor
set_option linter.unusedSimpArgs false
set_option linter.unusedVariables false
set_option maxRecDepth 100000
set_option maxHeartbeats 16000000
open Go.Proofs.Tryz
open Go.RowKit Go.Maps
section
variable {X:Gc} {M i g:Int} {n:NodeD}
theorem Gc.nd.told(H:X.nd M i n)(k:Int):X.nd M i {n with told:=k}:=⟨H.id,H.boot,H.sq,H.s0,H.dr,H.bn,H.left,H.lim,H.f,H.e,H.ask,H.tell⟩
theorem Gc.nd.asked(H:X.nd M i n)(k:Int):X.nd M i {n with asked:=k}:=⟨H.id,H.boot,H.sq,H.s0,H.dr,H.bn,H.left,H.lim,H.f,H.e,H.ask,H.tell⟩
theorem Gc.nd.Qx(H:X.nd M i n)(k:Int):X.nd M i {n with bad:=k}:=⟨H.id,H.boot,H.sq,H.s0,H.dr,H.bn,H.left,H.lim,H.f,H.e,H.ask,H.tell⟩
theorem RP(H:X.nd M i n){k:Int}{x:EntD}(h:lk n.t.ents k=some x)(a:x.has=true)(c:0<=k)(b:k<X.N):X.at_ x.e k:=H.e _ (pb h) a c b
theorem Gc.nd.UD(H:X.nd M i n)(s:dA n.t)(K:0<=i/\i<X.N)(J:M<=60000)(G:0<=g/\g<=35184372088832)(f c:Int):∃l,X.Snt l M i g (n.tell f c).1 (n.tell f c).2/\(n.tell f c).1.t=n.t/\(n.tell f c).1.fv=n.fv/\(n.tell f c).1.fe=n.fe:=by
 obtain⟨⟨k,b⟩,j⟩:∃r,nextF ((n.t.all.filter (·.has)).map (·.node)) n.told=r:=⟨_,rfl⟩;cases b with
 | false=>rw[Mf n f c k j];exact⟨X,.none H,rfl,rfl,rfl⟩
 | true=>
  by_cases p:k≠n.id/\((lk n.t.ents k).getD .zero).when<=f
  ·obtain⟨r,C⟩:∃r,NodeD.send {n with told:=k} f c {fr0 6 with who:=k,x:=((lk n.t.ents k).getD .zero).e.x,y:=((lk n.t.ents k).getD .zero).e.y,a:=((lk n.t.ents k).getD .zero).e.a,b:=((lk n.t.ents k).getD .zero).e.b,d:=((lk n.t.ents k).getD .zero).e.d,when:=((lk n.t.ents k).getD .zero).when}=r:=⟨_,rfl⟩;rw[Kl n f c k j _ rfl p r C];have w:=Pc _ _ _ j;rw[List.mem_map] at w;obtain⟨x,u,rfl⟩:=w;rw[List.mem_filter] at u;obtain⟨h,o⟩:=u;unfold cB.all at h;rw[List.mem_map] at h;obtain⟨⟨k,v⟩,m,rfl⟩:=h;have E:v.node=k:=(s.ents _ m).1;have O:lk n.t.ents v.node=some v:=by rw[E];exact Pw s.asc m
   have I:X.fr {({fr0 6 with who:=v.node,x:=((lk n.t.ents v.node).getD .zero).e.x,y:=((lk n.t.ents v.node).getD .zero).e.y,a:=((lk n.t.ents v.node).getD .zero).e.a,b:=((lk n.t.ents v.node).getD .zero).e.b,d:=((lk n.t.ents v.node).getD .zero).e.d,when:=((lk n.t.ents v.node).getD .zero).when} : FrD) with src:=i} g:=by
    rw[O];refine⟨fun e=>(by cases e),fun _ a b=>?_,fun e=>(by cases e),fun e=>(by cases e)⟩;show X.at_ v.e v.node;have A:0<=v.node:=a;have D:v.node<(X.N:Int):=b;rw[E] at A D ⊢;exact H.e _ m o A D
   obtain⟨l,F,L,B,q,z,-⟩:=(H.told v.node).send K J G f c I;rw[C] at F L B q z;exact⟨l,F,B,q,z⟩
  ·rw[Hf n f c k j _ rfl p];exact⟨X,.none (H.told k),rfl,rfl,rfl⟩
theorem Gc.nd.upd(H:X.nd M i n)(k:Nat)(s:cZ)(b:s.ask.st=1->X.us i s.ask.mrk/\s.ask.fr=X.fn i (X.G i s.ask.mrk))(c:s.tell.st=2->X.us i s.tell.mrk/\X.us k (X.P i s.tell.mrk)/\X.G k (X.P i s.tell.mrk)+X.fl k i<=X.G i s.tell.mrk/\s.tell.til=X.fn i (X.G i s.tell.mrk)/\s.tell.fr=X.fn i (X.G k (X.P i s.tell.mrk)+X.fl k i)):X.nd M i (n.upd k s):=by
 refine⟨H.id,H.boot,H.sq,H.s0,H.dr,H.bn,H.left,H.lim,H.f,H.e,fun j=>?_,fun j=>?_⟩
 ·by_cases a:j=k
  ·have e:(n.upd k s).s j=s:=if_pos a;rw[e];exact b
  ·have e:(n.upd k s).s j=n.s j:=if_neg a;rw[e];exact H.ask j
 ·by_cases a:j=k
  ·have e:(n.upd k s).s j=s:=if_pos a;rw[e,a];exact c
  ·have e:(n.upd k s).s j=n.s j:=if_neg a;rw[e];exact H.tell j
theorem KY{f:FrD}{g:Int}(h:f.kind=1∨f.kind=2∨f.kind=7):X.fr f g:=⟨fun e=>by omega,fun e=>by omega,fun e=>by omega,fun e=>by omega⟩
theorem Gc.nd.UP(H:X.nd M i n)(s:0<=i/\i<X.N)(q:M<=60000)(m:0<=g/\g<=35184372088832)(c a:Int)(o:a=X.fn i g):∃d,X.Snt d M i g (n.poll c a).1 (n.poll c a).2:=by
 obtain⟨⟨k,b⟩,u⟩:∃r,nextF (n.t.all.map (·.node)) n.asked=r:=⟨_,rfl⟩;unfold NodeD.poll;rw[u];cases b with
 | false=>exact⟨X,.none H⟩
 | true=>
  obtain⟨d,h,x,-,-,-,-,w⟩:=(H.asked k).send s q m c a (f:={fr0 2 with dst:=k}) (KY (.inr (.inl rfl)));simp only[Bool.true_eq_false,if_false];split
  ·rename_i v;obtain⟨p,j,-⟩:=w v;refine⟨d,h.ext,?_,h.oth,h.out⟩;refine h.nd.upd _ _ (fun e=>?_) (fun e=>h.nd.tell _ e);unfold cZ.poll begunF at e ⊢;simp only at e ⊢;split at e
   ·rename_i l;rw[if_pos l];exact⟨p,by show a=d.fn i (d.G i _);exact o.trans ((h.ext.fn i g).symm.trans (congrArg (d.fn i) j.symm))⟩
   ·cases e
  ·exact⟨d,h⟩
theorem Jx{t:cB}{a s:Int}{p:Int×EntD}(h:p∈(t.tx a s).ents):p∈t.ents:=by
 unfold cB.tx at h;exact(List.mem_filter.1 h).1
theorem dA.tx{t:cB}(h:dA t)(a s:Int):dA (t.tx a s):=⟨h.most,fun p b=>h.ents p (Jx b),h.lives,List.Pairwise.filter _ h.asc,h.lasc⟩
theorem Gc.nd.OA(H:X.nd M i n)(z:dA n.t)(r:0<=i/\i<X.N)(p:M+8<=60000)(m:0<=g/\g<=35184372088832)(j h:Int)(w:h=X.fn i g):∃A,X.Snt A (M+8) i g (n.tick j h).1 (n.tick j h).2:=by
 unfold NodeD.tick;split
 ·exact⟨X,.none (H.mono (by omega))⟩
 ·have D:=H.bn;have O:=H.lim;have B:=H.left
  have u:X.nd (M+8) i {n with b:=⟨n.b.n,n.b.n⟩,t:=n.t.tx j n.c.silent,tm:=(n.tm.due j).1}:=
   ⟨H.id,H.boot,H.sq,H.s0,H.dr,H.bn,D.1,(by show n.seq+n.b.n<=M+8;omega),H.f,fun q C=>H.e q (Jx C),H.ask,H.tell⟩
  simp only;split
  ·exact⟨X,.none u⟩
  · have s : X.fr { (if n.fv then { fr0 5 with x := n.fe.x, y := n.fe.y, a := n.fe.a, b := n.fe.b, d := n.fe.d } else fr0 1 : FrD) with src := i } g := by
      cases hv:n.fv with
      | true=>exact⟨fun _=>H.f hv,fun e=>(by cases e),fun e=>(by cases e),fun e=>(by cases e)⟩
      | false=>exact KY (.inl rfl)
    obtain⟨L,k,G,E,J,P,-⟩:=u.send r p m j h s
    have o:dA (NodeD.send {n with b:=⟨n.b.n,n.b.n⟩,t:=n.t.tx j n.c.silent,tm:=(n.tm.due j).1} j h (if n.fv then {fr0 5 with x:=n.fe.x,y:=n.fe.y,a:=n.fe.a,b:=n.fe.b,d:=n.fe.d} else fr0 1)).1.t:=by
     rw[E];exact z.tx _ _
    obtain⟨I,l,K,-⟩:=k.nd.UD o (by rw[k.ext.N];exact r) p m j h;obtain⟨F,v⟩:=l.nd.UP (by rw[l.ext.N,k.ext.N];exact r) p m j h (by rw[l.ext.fn,k.ext.fn];exact w);exact⟨F,(k.trans l).trans v⟩
theorem L9{e f:El}{t a P Q:Int}(b:e.has P Q=true)(h:n.at e t a=(f,0)):f.has P Q=true:=by
 have:=LQ (QC h) P Q 0 0 b (by have:=ax (n.c.speed*ticksE t a n.c.skew);omega);rwa [Int.add_zero,Int.add_zero] at this
theorem Ji(H:X.nd M i n){k a:Int}(c:0<=k)(b:k<X.N)(h:(n.track k a).2=true):X.at_ (n.track k a).1 k:=by
 unfold NodeD.track at h ⊢;cases hl:lk n.t.ents k with
 | none=>rw[hl] at h;cases h
 | some x=>
  rw[hl] at h;simp only at h ⊢;cases hh:x.has with
  | false=>rw[hh] at h;cases h
  | true=>
   rw[hh,if_pos rfl] at h;rw[if_pos rfl];simp only[decide_eq_true_eq] at h;exact L9 (n:=n) (RP H hl hh c b) (f:=(n.at x.e x.when a).1) (Prod.ext rfl h)
theorem Gc.nd.put_(H:X.nd M i n)(k:Int)(e:El)(d c:Int)(z:0<=k->k<X.N->X.at_ e k):X.nd M i (n.put k e d c):=by
 unfold NodeD.put;by_cases r:(n.at e d c).2=0
 ·rw[if_neg (by simp[r])];simp only;obtain⟨f,u⟩:∃f,(n.at e d c).1=f:=⟨_,rfl⟩;have j:n.at e d c=(f,0):=Prod.ext u r;rw[u];obtain⟨o,s⟩:∃o,(if (n.track k c).2=true then (mergeE (n.track k c).1 f).1 else f)=o:=⟨_,rfl⟩;rw[s]
  have A:0<=k->k<X.N->X.at_ o k:=by
   intro a b;have v:X.at_ f k:=L9 (n:=n) (z a b) j;rw[<-s];split
   ·rename_i y;obtain⟨-,-,-,w⟩:=Cm (n.track k c).1 f (QB j) (X.p k.toNat).1 (X.p k.toNat).2 (m:=(mergeE (n.track k c).1 f).1) (k:=(mergeE (n.track k c).1 f).2) rfl;exact w v (fun _=>Ji H a b y)
   ·exact v
  refine⟨H.id,H.boot,H.sq,H.s0,H.dr,H.bn,H.left,H.lim,H.f,?_,H.ask,H.tell⟩;intro q h l a b;unfold cB.put at h;cases hl:lk n.t.ents k with
  | none=>simp only[hl] at h;exact H.e q h l a b
  | some x=>
   simp only[hl] at h;split at h
   ·exact H.e q h l a b
   ·rcases mem_ins.1 h with rfl|⟨h,-⟩
    ·exact A a b
    ·exact H.e q h l a b
 ·rw[if_pos r];exact H
theorem Gc.nd.filt(H:X.nd M i n){r:(Bool×El)×Int}(h:FH r.1.1 r.1.2 (X.p i.toNat).1 (X.p i.toNat).2):X.nd M i (nf n r):=⟨H.id,H.boot,H.sq,H.s0,H.dr,H.bn,H.left,H.lim,h,H.e,H.ask,H.tell⟩
theorem Gc.nd.Ow(H:X.nd M i n)(j:0<=i/\i<X.N)(f:FrD)(a:Int)(c:0<=f.who->f.who<X.N->X.at_ f.el f.who):X.nd M i (n.tracked f a):=by
 unfold NodeD.tracked;split
 ·rename_i e;split
  ·rename_i h;refine H.filt ?_;have b:f.who=i:=e.trans H.id;have d:X.at_ (n.at f.el f.when a).1 i:=L9 (n:=n) (by have:=c (by omega) (by omega);rw[b] at this;exact this) (f:=(n.at f.el f.when a).1) (Prod.ext rfl h);exact Sq (k:=(uv n.cap n.fv n.fe (n.at f.el f.when a).1).2) H.f d rfl
  ·exact H
 ·split
  ·exact H.put_ _ _ _ _ c
  ·exact H
end
structure Gc.ok (X:Gc):Prop where
 n8:X.N<=8
 dr:0<=X.dr/\X.dr<=1000
 pos:∀k:Nat,(-1000000<=(X.p k).1/\(X.p k).1<=1000000)/\-1000000<=(X.p k).2/\(X.p k).2<=1000000
theorem Gc.Ext.ok{X a:Gc}(h:X.Ext a)(K:X.ok):a.ok:=⟨by rw [h.N];exact K.n8,by rw [h.dr];exact K.dr,by rw [h.p];exact K.pos⟩
section
variable {X:Gc} {M i g:Int} {n:NodeD}
theorem Gc.ok.PO(K:X.ok)(a b:Int):rtI (((X.p a.toNat).1-(X.p b.toNat).1)*((X.p a.toNat).1-(X.p b.toNat).1)+((X.p a.toNat).2-(X.p b.toNat).2)*((X.p a.toNat).2-(X.p b.toNat).2))=X.fl a b:=by
 have e:=K.pos a.toNat;have d:=K.pos b.toNat;unfold Gc.fl Cq;rw[if_pos (by simp[ks];omega)];have f:=Jm ((X.p a.toNat).1-(X.p b.toNat).1) 8388608 (by omega) (by omega);have c:=Jm ((X.p a.toNat).2-(X.p b.toNat).2) 8388608 (by omega) (by omega);rw[Fu _ (by omega)]
theorem Gc.ok.Uk(K:X.ok)(a b:Int):X.fl a b=X.fl b a:=by
 rw[<-K.PO a b,<-K.PO b a];congr 1
 rw[<-Int.neg_sub (X.p b.toNat).1,<-Int.neg_sub (X.p b.toNat).2,Int.neg_mul_neg,Int.neg_mul_neg]
theorem Gc.PQ(a b:Int):0<=X.fl a b/\X.fl a b<=16777216:=K7 _ _
theorem JQ(k:Nat)(m:Int)(h:0<=m):-m<=offF k 13 m/\offF k 13 m<=m:=by
 unfold offF;rw[Int.tmod_eq_emod_of_nonneg (by omega)];have a:=Int.emod_nonneg (13*(k:Int)) (show 2*m+1≠0 by omega);have b:=Int.emod_lt_of_pos (13*(k:Int)) (show 0<2*m+1 by omega);omega
theorem Gc.ok.H9(K:X.ok){k g:Int}(c:0<=k/\k<X.N)(d:0<=g/\g<=35184388866048):Ab (offF k.toNat 13 X.dr) (12345*(k.toNat:Int)) g=(X.fn k g,0):=by
 have f:=K.n8;have a:=K.dr;have b:=JQ k.toNat X.dr a.1
 have e:(Ab (offF k.toNat 13 X.dr) (12345*(k.toNat:Int)) g).2=0:=by
  unfold Ab;rw[if_pos (by simp[ks];omega)]
 exact Prod.ext rfl e
theorem Gc.nd.Nt(H:X.nd M i n)(K:X.ok)(o:0<=i/\i<X.N){k:Int}(j:0<=k/\k<X.N){t:Oh}(b a:Int){a0 b2 a4:Int}(I:0<=a0)(L:a0+X.fl k i<=b2)(Q:b2+X.fl i k<=a4)(w:a4<=35184372088832)(t1:t.ra=X.fn k (b2+X.fl i k)-X.fn k a0)(t2:t.db=X.fn i b2-X.fn i (a0+X.fl k i))(G:t.da=X.fn k a4-X.fn k (b2+X.fl i k))(y:t.rb=X.fn i (a4+X.fl k i)-X.fn i b2):X.nd M i (n.measured k t b a):=by
 unfold NodeD.measured;simp only;split
 ·exact H
 ·rename_i D;split
  ·rename_i p;refine H.filt ?_
   have C:(n.track k a).2=true:=by
    cases e:(n.track k a).2 with
    | true=>rfl
    | false=>exact absurd (.inl e) D
   obtain⟨⟨⟨F,q⟩,z⟩,s⟩:∃r,twrRange t n.c.drift (2*n.c.speed*ticksE b a n.c.skew)=r:=⟨_,rfl⟩;rw[s] at p ⊢;simp only at p ⊢;subst p;have hF:=K.Uk i k;have P:=X.PQ k i;have u:=X.PQ i k;have v:=K.dr;have m:=JQ i.toNat X.dr v.1;have d:=JQ k.toNat X.dr v.1;rw[H.dr] at s
   obtain⟨O,J,x,A,B,E⟩:=MG (X1:=b2+X.fl i k-a0) (X2:=b2-(a0+X.fl k i)) (X3:=a4+X.fl k i-b2) (X4:=a4-(b2+X.fl i k)) (fl:=X.fl i k) (by omega) (by omega) u.1
    (fun l h e=>A9 (K.H9 j ⟨I,by omega⟩) (K.H9 j (g:=b2+X.fl i k) ⟨by omega,by omega⟩) (by omega) t1 d.1 d.2 e)
    (fun l h e=>A9 (K.H9 o (g:=a0+X.fl k i) ⟨by omega,by omega⟩) (K.H9 o (g:=b2) ⟨by omega,by omega⟩) (by omega) t2 m.1 m.2 e)
    (fun l h e=>A9 (K.H9 o (g:=b2) ⟨by omega,by omega⟩) (K.H9 o (g:=a4+X.fl k i) ⟨by omega,by omega⟩) (by omega) y m.1 m.2 e)
    (fun l h e=>A9 (K.H9 j (g:=b2+X.fl i k) ⟨by omega,by omega⟩) (K.H9 j (g:=a4) ⟨by omega,by omega⟩) (by omega) G d.1 d.2 e) s
   exact PS (k:=(nh n.cap n.fv n.fe (n.track k a).1 F q).2) H.f (Ji H j.1 j.2 C) x A (K.PO i k) B.symm E.symm rfl
  ·exact H
theorem O2(s:cZ)(a m:Int):(s.resp a m).1.ask=s.ask:=by unfold cZ.resp;split<;>rfl
theorem M9(s:cZ)(a c b m:Int)(h:(((s.gotPoll a c).resp b m).1).tell.st=2):(((s.gotPoll a c).resp b m).1).tell=⟨2,a,b,m,c⟩:=by
 unfold cZ.resp cZ.gotPoll HalfD.answer begunF at h ⊢;cases hf:ot a with
 | false=>rw[hf] at h;simp[HalfD.zero] at h
 | true=>
  rw[hf] at h;rw[if_pos rfl] at h ⊢;by_cases d:(1:Int)≠1∨ot b=false∨b<a
  ·simp only[if_pos d,Bool.false_eq_true,if_false] at h;cases h
  ·simp only[if_neg d,if_true]
theorem LR(s:cZ)(a m:Int)(h:(s.gotResp a m).2=false):(s.gotResp a m).1=s:=by
 unfold cZ.gotResp HalfD.answer at h ⊢;by_cases c:s.ask.mrk=m
 ·rw[if_pos c] at h ⊢;by_cases b:s.ask.st≠1∨ot a=false∨a<s.ask.fr
  ·simp only[if_pos b]
  ·simp only[if_neg b] at h;cases h
 ·rw[if_neg c]
theorem KW(s:cZ)(a m:Int)(h:(s.gotResp a m).2=true):s.ask.st=1/\s.ask.mrk=m/\(s.gotResp a m).1={s with ask:={s.ask with st:=2,til:=a}}:=by
 unfold cZ.gotResp HalfD.answer at h ⊢;by_cases b:s.ask.mrk=m
 ·rw[if_pos b] at h ⊢;by_cases c:s.ask.st≠1∨ot a=false∨a<s.ask.fr
  ·simp only[if_pos c] at h;cases h
  ·simp only[if_neg c];exact⟨by omega,b,trivial⟩
 ·rw[if_neg b] at h;cases h
theorem J3(s:cZ)(a c d m:Int)(h:(s.gotFinal a c d m).2.2.2=true):s.tell.st=2/\s.tell.mrk=m/\(s.gotFinal a c d m).1={s with tell:=.zero}/\(s.gotFinal a c d m).2.1=⟨c,s.tell.til-s.tell.fr,d,a-s.tell.til⟩:=by
 unfold cZ.gotFinal at h ⊢;by_cases b:s.tell.mrk=m/\s.tell.ends a=true
 ·rw[if_pos b];have e:=b.2;unfold HalfD.ends at e;simp only[Bool.and_eq_true,decide_eq_true_eq] at e;exact⟨e.1.1,b.1,rfl,rfl⟩
 ·rw[if_neg b] at h;cases h
theorem KX(s:cZ)(a c d m:Int)(h:(s.gotFinal a c d m).2.2.2=false):(s.gotFinal a c d m).1=s:=by
 unfold cZ.gotFinal at h ⊢;by_cases b:s.tell.mrk=m/\s.tell.ends a=true
 ·rw[if_pos b] at h;cases h
 ·rw[if_neg b]
theorem Gc.nd.upd_same(H:X.nd M i n)(k:Nat):X.nd M i (n.upd k (n.s k)):=H.upd _ _ (H.ask k) (H.tell k)
theorem Gc.nd.O3(H:X.nd M i n)(K:X.ok)(z:0<=i/\i<X.N)(U:M<=60000)(O:0<=g/\g<=35184372088832){f:FrD}{w a h b:Int}(S:X.sent f w)(Y:f.dst=i)(k:a=X.fn i (w+X.fl f.src i))(E:w+X.fl f.src i<=g)(Q:b=X.fn i g):∃c,X.Snt c M i g (n.ranging f a h b).1 (n.ranging f a h b).2:=by
 have j:tf f=f.seq:=by unfold tf;rw[S.boot];omega
 have p:=S.us;have o:0<=f.src/\f.src<X.N:=⟨p.1,p.2.1⟩;have x:((f.src.toNat:Nat):Int)=f.src:=by omega
 have v:=S.gs;unfold NodeD.ranging;simp only;by_cases L:f.kind=2
 ·rw[if_pos L];have m:X.nd M i (n.upd f.src.toNat ((n.s f.src.toNat).gotPoll a f.stamp)):=H.upd _ _ (H.ask f.src.toNat) (fun e=>by unfold cZ.gotPoll begunF at e;simp only at e;split at e<;>cases e);obtain⟨c,d,J,-,-,-,-,s6⟩:=m.send z U O h b (f:={fr0 3 with dst:=f.src,t1:=tf f}) ⟨fun e=>(by cases e),fun e=>(by cases e),fun _=>⟨by show X.us f.src (tf f);rw[j];exact p,by show X.G f.src (tf f)+X.fl f.src i<=g;rw[j,v];exact E⟩,fun e=>(by cases e)⟩;split
  ·rename_i hb;obtain⟨u1,F,A⟩:=s6 hb;have A:=A rfl;refine⟨c,d.ext,?_,d.oth,d.out⟩;rw[J];have r:(n.upd f.src.toNat ((n.s f.src.toNat).gotPoll a f.stamp)).s f.src.toNat=(n.s f.src.toNat).gotPoll a f.stamp:=if_pos rfl;rw[r];refine d.nd.upd _ _ (fun e=>?_) (fun e=>?_)
   ·have q:=d.nd.ask f.src.toNat;rw[J,r] at q;rw[O2] at e ⊢;exact q e
   ·rw[M9 _ _ _ _ _ e];have l:c.P i _=f.seq:=A.trans j;obtain⟨v1,Z,-⟩:=d.ext.us _ _ p;refine⟨u1,?_,?_,?_,?_⟩
    ·rw[x];exact l ▸ v1
    ·show c.G _ (c.P i _)+c.fl _ i<=c.G i _;rw[l,F,x,Z,v,d.ext.fl];exact E
    ·show b=c.fn i (c.G i _);rw[F,d.ext.fn];exact Q
    ·show a=c.fn i (c.G _ (c.P i _)+c.fl _ i);rw[l,x,Z,v,d.ext.fl,d.ext.fn];exact k
  ·exact⟨c,d⟩
 ·rw[if_neg L];by_cases t:f.kind=3
  ·rw[if_pos t];cases hr:((n.s f.src.toNat).gotResp a f.t1).2 with
   | false=>
    rw[if_pos rfl,LR _ _ _ hr];exact⟨X,.none (H.upd_same _)⟩
   | true=>
    rw[if_neg (by decide)];obtain⟨y,u,B⟩:=KW _ _ _ hr;rw[B];obtain⟨a1,a2⟩:=H.ask f.src.toNat y;have m:X.nd M i (n.upd f.src.toNat {n.s f.src.toNat with ask:={(n.s f.src.toNat).ask with st:=2,til:=a}}):=H.upd _ _ (fun e=>by cases e) (H.tell _);have r:(n.upd f.src.toNat {n.s f.src.toNat with ask:={(n.s f.src.toNat).ask with st:=2,til:=a}}).s f.src.toNat={n.s f.src.toNat with ask:={(n.s f.src.toNat).ask with st:=2,til:=a}}:=if_pos rfl;rw[r];unfold cZ.final;split
    ·simp only[if_true];have H2:=m.upd f.src.toNat {ask:=.zero,tell:=(n.s f.src.toNat).tell} (fun e=>by cases e) (H.tell _);obtain⟨I,p2⟩:=S.fr.rsp t;rw[Y] at I p2;have pp:=S.ps t
     obtain⟨c,d,-⟩:=H2.send z U O h b (f:={fr0 4 with dst:=f.src,t1:=a-(n.s f.src.toNat).ask.fr,t2:=b-a,when:=tf f})
      ⟨fun e=>(by cases e),fun e=>(by cases e),fun e=>(by cases e),fun _=>by
       show X.us f.src (tf f)/\X.us i (X.P f.src (tf f))/\X.G i (X.P f.src (tf f))+X.fl i f.src<=X.G f.src (tf f)/\X.G f.src (tf f)+X.fl f.src i<=g/\
        a-(n.s f.src.toNat).ask.fr=X.fn i (X.G f.src (tf f)+X.fl f.src i)-X.fn i (X.G i (X.P f.src (tf f)))/\b-a=X.fn i g-X.fn i (X.G f.src (tf f)+X.fl f.src i)
       rw[j,pp,v,a2,u,<-k,<-Q];exact⟨p,I,p2,E,rfl,rfl⟩⟩
     exact⟨c,d⟩
    ·simp only[Bool.false_eq_true,if_false];exact⟨X,.none (m.upd _ _ (fun e=>by cases e) (H.tell _))⟩
  ·rw[if_neg t];by_cases D:f.kind=4
   ·rw[if_pos D];cases hr:((n.s f.src.toNat).gotFinal a f.t1 f.t2 f.when).2.2.2 with
    | false=>
     rw[if_neg (by decide),KX _ _ _ _ _ hr];exact⟨X,.none (H.upd_same _)⟩
    | true=>
     rw[if_pos rfl];obtain⟨y,u,B,r4⟩:=J3 _ _ _ _ _ hr;obtain⟨b1,b2,b3,C,W⟩:=H.tell f.src.toNat y;obtain⟨c1,R,T,c4,V,c6⟩:=S.fr.fin D;rw[u,x] at b2 b3 W;rw[u] at b1 C;rw[Y] at c1 R T c4 V c6;rw[B,r4];have m:X.nd M i (n.upd f.src.toNat {n.s f.src.toNat with tell:=.zero}):=H.upd _ _ (H.ask _) (fun e=>by cases e);have hb:=X.PQ f.src i;exact⟨X,.none (m.Nt K z o _ _ (a0:=X.G f.src (X.P i f.when)) (b2:=X.G i f.when) (a4:=w) R.2.2.2.2.1 T c4 (by omega) V (by rw[C,W]) c6 (by rw[C,<-k]))⟩
   ·rw[if_neg D];exact⟨X,.none H⟩
end
def nm(t t':cB):Prop:=∀q∈t'.ents,q.2.has=true->∃q'∈t.ents,q'.1=q.1/\q'.2.has=true/\q'.2.e=q.2.e
theorem nm.refl(t:cB):nm t t:=fun q h a=>⟨q,h,rfl,a,rfl⟩
theorem nm.trans{a b c:cB}(h:nm a b)(k:nm b c):nm a c:=fun q m d=>by
 obtain⟨j,e,a2,a3,a4⟩:=k q m d;obtain⟨f,o,b2,p,l⟩:=h j e a3;exact⟨f,o,b2.trans a2,p,l.trans a4⟩
theorem nm.IH{t a:cB}(h:∀q∈a.ents,q∈t.ents):nm t a:=fun q c b=>⟨q,h q c,rfl,b,rfl⟩
theorem nm.ins{t h:cB}{m:List (Int×EntD)}{k:Int}{v:EntD}(o:∀q∈m,q∈t.ents)(j:v.has=true->∃x,(k,x)∈t.ents/\x.has=true/\x.e=v.e)(l:h.ents=Go.Proofs.YtechbdnhalmobaaGreatDoor.ins m k v):nm t h:=fun q d f=>by
 rw[l] at d;rcases mem_ins.1 d with rfl|⟨d,-⟩
 ·obtain⟨x,a,b,c⟩:=j f;exact⟨(k,x),a,rfl,b,c⟩
 ·exact⟨q,o q d,rfl,f,rfl⟩
theorem Oa(t:cB)(n boot:Int):nm t (t.begin n boot).1:=by
 have f:∀b:cB,b.ents=(match lk t.ents n with|some x=>ins t.ents n ⟨n,x.boot,x.heard,false,.zero,0⟩|none=>t.ents)->nm t b:=by
  intro b h;cases hx:lk t.ents n with
  | none=>rw[hx] at h;exact .IH (fun q a=>by rw[h] at a;exact a)
  | some x=>rw[hx] at h;exact nm.ins (fun q a=>a) (fun h=>by cases h) h
 unfold cB.begin;cases hl:lk t.lives n with
 | none=>exact f _ rfl
 | some l=>
  simp only;split
  ·split
   ·exact .refl t
   ·exact .refl t
  ·split
   ·exact .refl t
   ·exact f _ rfl
theorem PF(t:cB)(n boot c a:Int):nm t (t.hear n boot c a).1:=by
 unfold cB.hear;split
 ·exact .refl t
 ·have d:=Oa t n boot;split
  ·exact d
  ·simp only;split
   ·exact d
   ·refine d.trans ?_;split
    ·rename_i x e;refine nm.ins (k:=n) (v:={x with node:=n,boot:=boot,heard:=a}) (m:=(t.begin n boot).1.ents) ?_ ?_ rfl
     ·exact fun q b=>b
     ·exact fun h=>⟨x,pb e,h,rfl⟩
    ·simp only;split
     ·exact nm.ins (m:=del (t.begin n boot).1.ents _) (fun q b=>(Ar.1 b).1) (fun h=>by cases h) rfl
     ·exact nm.ins (fun q b=>b) (fun h=>by cases h) rfl
theorem Nz(t:cB)(n:Int):nm t (t.leave n).1:=by
 unfold cB.leave;cases lk t.lives n with
 | none=>exact .refl t
 | some l=>exact .IH (fun q a=>(Ar.1 a).1)
section
variable {X:Gc} {M i g:Int} {n:NodeD}
theorem Gc.nd.sub(H:X.nd M i n){t:cB}(h:nm n.t t):X.nd M i {n with t:=t}:=
 ⟨H.id,H.boot,H.sq,H.s0,H.dr,H.bn,H.left,H.lim,H.f,fun q l d a b=>by
  obtain⟨o,k,c,j,m⟩:=h q l d
  rw[<-m,<-c]
  exact H.e o k j (by rw[c];exact a) (by rw[c];exact b),H.ask,H.tell⟩
theorem Gc.nd.UI(H:X.nd M i n)(K:X.ok)(m:0<=i/\i<X.N)(r:M<=60000)(p:0<=g/\g<=35184372088832){f:FrD}{k b c a:Int}(S:X.sent f k)(d:b=X.fn i (k+X.fl f.src i))(t:k+X.fl f.src i<=g)(q:a=X.fn i g):∃s,X.Snt s M i g (n.take f b c a).1 (n.take f b c a).2:=by
 unfold NodeD.take;by_cases e:f.kind=5
 ·rw[if_pos e];exact⟨X,.none (H.put_ _ _ _ _ (fun _ _=>S.fr.est e))⟩
 rw[if_neg e];by_cases h:f.kind=6
 ·rw[if_pos h];exact⟨X,.none (H.Ow m _ _ (S.fr.trk h))⟩
 rw[if_neg h];by_cases l:f.kind=2∨f.kind=3∨f.kind=4
 ·rw[if_pos l];by_cases j:f.dst=n.id
  ·rw[if_pos j];exact H.O3 K m r p S (j.trans H.id) d t q
  ·rw[if_neg j];exact⟨X,.none H⟩
 rw[if_neg l];by_cases o:f.kind=7
 ·rw[if_pos o];exact⟨X,.none (H.sub (Nz _ _))⟩
 ·rw[if_neg o];exact⟨X,.none H⟩
theorem NT{f a:FrD}(h:decE (dataF f)=(a,0)):a=f:=by
 unfold dataF at h;split at h
 ·rename_i b;rw[Sy f b] at h;injection h with h1 _;exact h1.symm
 ·injection h with _ h2;cases h2
theorem Gc.nd.PH(H:X.nd M i n)(K:X.ok)(o:0<=i/\i<X.N)(l:M<=60000)(j:0<=g/\g<=35184372088832){m:gE}(p:X.mail m)(s:(m.til:Int)=i)(x:m.tru<=g){now fine:Int}(k:fine=X.fn i g):∃r,X.Snt r M i g (n.hear m.data m.at_ now fine).1 (n.hear m.data m.at_ now fine).2.1:=by
 obtain⟨f,w,e,S,c,b,v⟩:=p;rw[s] at c b;rw[e];unfold NodeD.hear;split
 ·exact⟨X,.none H⟩
 split
 ·exact⟨X,.none (H.Qx _)⟩
 rename_i u;have h:(decE (dataF f)).2=0:=by rcases Int.decEq (decE (dataF f)).2 0 with q|q;exact absurd q u;exact q
 have a:(decE (dataF f)).1=f:=NT (Prod.ext rfl h);rw[a];simp only;split
 ·exact⟨X,.none H⟩
 split
 ·exact⟨X,.none H⟩
 have d:=H.sub (PF n.t f.src f.boot f.seq now);split
 ·exact⟨X,.none d⟩
 ·exact d.UI K o l j S (by rw[b,c]) (by omega) k
end
structure FS (X:Gc) (F:FleetD) (M:Nat->Int):Prop where
 ok:X.ok
 len:F.n.length=X.N
 p:F.w.p.length=X.N
 pos:∀k,k<X.N->F.w.p[k]?=some (X.p k)
 dr:F.w.c.drift=X.dr
 nd:∀(i:Nat) n,F.n[i]?=some n->X.nd (M i) i n/\bL n
 mail:∀m∈F.a,X.mail m
section
variable {X:Gc} {F:FleetD} {M:Nat->Int} {g:Int}
theorem FS.fine(h:FS X F M){i:Nat}(a:i<X.N)(g:Int):F.w.fine i g=X.fn i g:=by
 unfold fU.fine Gc.fn;rw[if_pos (by rw[h.p];exact a),h.dr];rfl
theorem FS.fl(h:FS X F M){i j:Nat}(b:i<X.N)(a:j<X.N):F.w.flight i j=X.fl i j:=by
 unfold fU.flight Gc.fl;rw[h.pos i b,h.pos j a];rfl
theorem FS.of(h:FS X F M){b:FleetD}(e:b.w.p=F.w.p)(f:b.w.c=F.w.c)(d:b.n=F.n)(i:∀m∈b.a,X.mail m):FS X b M:=
 ⟨h.ok,by rw[d];exact h.len,by rw[e];exact h.p,by rw[e];exact h.pos,by rw[f];exact h.dr,by rw[d];exact h.nd,i⟩
theorem air_mem{l:List gE}{m q:gE}(h:q∈(airPut l m).1):q∈l∨q=m:=by
 unfold airPut at h;split at h
 ·exact .inl h
 ·rcases List.mem_append.1 h with h|h
  ·exact .inl h
  ·exact .inr (List.mem_singleton.1 h)
theorem FS.lm(h:FS X F M){i j:Nat}(d:i<X.N)(b:j<X.N){f:FrD}(S:X.sent f g)(c:f.src=i):FS X (F.lm i j (dataF f) g) M:=by
 unfold FleetD.lm;split
 ·exact h
 ·refine h.of rfl rfl rfl ?_;intro q a;rcases air_mem a with a|rfl
  ·exact h.mail q a
  ·refine⟨f,g,rfl,S,?_,?_,b⟩
   ·show g+F.w.flight i j=g+X.fl f.src j;rw[h.fl d b,c]
   ·exact h.fine b _
theorem FS.send(h:FS X F M){i:Nat}(m:i<X.N):∀(l:List ky),(∀o∈l,X.sent o.1 g/\o.1.src=i)->FS X (F.send i l g) M:=by
 intro l;induction l generalizing F with
 | nil=>intro _;exact h
 | cons o r k=>
  intro e;refine k (F:=(List.range F.n.length).foldl (fun f j=>f.lm i j (if pl o.1 then nt o.1 else []) g) F) ?_ (fun q d=>e q (by simp[d]));obtain⟨S,p⟩:=e o (by simp)
  have b:∀(js:List Nat) (F:FleetD),FS X F M->(∀j∈js,j<X.N)->FS X (js.foldl (fun f j=>f.lm i j (if pl o.1 then nt o.1 else []) g) F) M:=by
   intro js;induction js with
   | nil=>intro F h _;exact h
   | cons j t c=>intro F h a;exact c _ (h.lm m (a j (by simp)) S p) (fun q d=>a q (by simp[d]))
  exact b _ _ h (fun j a=>by rw[<-h.len];exact List.mem_range.1 a)
theorem FS.turn(h:FS X F M){f:Gc}{M':Nat->Int}{i:Nat}(r:∀j,j≠i->M j<=M' j)(d:i<X.N){b:NodeD}{l:List ky}(s:X.Snt f (M' i) i g b l)(k:bL b):FS f ((F.setN i b).send i l g) M':=by
 have c:=s.ext.N;refine FS.send (F:=F.setN i b) ⟨s.ext.ok h.ok,?_,by rw[c];exact h.p,by rw[c,s.ext.p];exact h.pos,by rw[s.ext.dr];exact h.dr,?_,fun m o=>(h.mail m o).ext s.ext⟩ (by rw[c];exact d) l s.out
 ·rw[c];show(F.n.set i b).length=X.N;rw[List.length_set];exact h.len
 ·intro j n a;have a:(F.n.set i b)[j]?=some n:=a;by_cases e:j=i
  ·subst e;rw[List.getElem?_set_self (by rw[h.len];exact d)] at a;injection a with a;subst a
   exact⟨s.nd,k⟩
  ·rw[List.getElem?_set_ne (fun q=>e q.symm)] at a;obtain⟨u,t⟩:=h.nd j n a;exact⟨(u.ext s.ext (s.oth j (by omega))).mono (r j e),t⟩
theorem FS.PH(h:FS X F M)(k:∀j,M j<=60000){m:gE}(o:X.mail m)(f:0<=g/\g<=35184372088832)(l:m.tru<=g)(d:∀n:NodeD,F.n[m.til]?=some n->∀now fine,bL n->bL (n.hear m.data m.at_ now fine).1):∃a,FS a (F.hear m.til m.data m.at_ g) M/\a.p=X.p/\a.N=X.N:=by
 unfold FleetD.hear;cases hn:F.n[m.til]? with
 | none=>exact⟨X,h,rfl,rfl⟩
 | some n=>
  obtain⟨b,-⟩:=List.getElem?_eq_some_iff.1 hn;have c:m.til<X.N:=by rw[<-h.len];exact b
  obtain⟨i,e⟩:=h.nd _ _ hn;obtain⟨a,s⟩:=i.PH h.ok ⟨by omega,by omega⟩ (k _) f o rfl l (now:=F.w.now m.til) (fine:=F.w.fine m.til g) (h.fine c g);exact⟨a,h.turn (fun _ _=>Int.le_refl _) c s (d n hn _ _ e),s.ext.p,s.ext.N⟩
theorem FS.Tu(h:FS X F M){i:Nat}(q:M i+8<=60000)(o:0<=g/\g<=35184372088832):∃c,FS c (F.lY i g) (fun j=>if j=i then M i+8 else M j)/\c.p=X.p/\c.N=X.N:=by
 have mono:FS X F (fun j=>if j=i then M i+8 else M j):=⟨h.ok,h.len,h.p,h.pos,h.dr,fun j n d=>by
  obtain⟨a,b⟩:=h.nd j n d;refine⟨a.mono ?_,b⟩;show M j<=if j=i then M i+8 else M j
  split
  ·rename_i e;subst e;omega
  ·exact Int.le_refl _,h.mail⟩
 unfold FleetD.lY;cases hn:F.n[i]? with
 | none=>exact⟨X,mono,rfl,rfl⟩
 | some n=>
  simp only;split
  ·obtain⟨f,-⟩:=List.getElem?_eq_some_iff.1 hn;have l:i<X.N:=by rw[<-h.len];exact f
   obtain⟨m,k⟩:=h.nd _ _ hn;obtain⟨c,s⟩:=m.OA k.t ⟨by omega,by omega⟩ q o (F.w.now i) (F.w.fine i g) (h.fine l g);exact⟨c,h.turn (M':=fun j=>if j=i then M i+8 else M j) (fun j d=>by show M j<=if j=i then M i+8 else M j;rw[if_neg d];exact Int.le_refl _) l (by show X.Snt c (if i=i then M i+8 else M i) i g _ _;rw[if_pos rfl];exact s) (Hy k _ _),s.ext.p,s.ext.N⟩
  ·exact⟨X,mono,rfl,rfl⟩
theorem FS.mono(h:FS X F M){M':Nat->Int}(b:∀j,M j<=M' j):FS X F M':=⟨h.ok,h.len,h.p,h.pos,h.dr,fun j n a=>⟨(h.nd j n a).1.mono (b j),(h.nd j n a).2⟩,h.mail⟩
theorem FS.ticks(r:0<=g/\g<=35184372088832):∀(js:List Nat) (F:FleetD) (X:Gc) (M:Nat->Int),js.Nodup->(∀j∈js,M j+8<=60000)->FS X F M->∃c,FS c (js.foldl (fun f i=>f.lY i g) F) (fun j=>if j∈js then M j+8 else M j)/\c.p=X.p/\c.N=X.N:=by
 intro js;induction js with
 | nil=>intro F X M _ _ h;exact⟨X,h.mono (fun j=>by simp),rfl,rfl⟩
 | cons i t m=>
  intro F X M s l h;obtain⟨a,d⟩:=List.nodup_cons.1 s;obtain⟨x,v,n,y⟩:=h.Tu (l i (by simp)) r (i:=i)
  obtain⟨u,o,w,q⟩:=m _ x _ d (fun j k=>by
   show(if j=i then M i+8 else M j)+8<=60000;rw[if_neg (fun e=>a (by rw[<-e];exact k))];exact l j (by simp[k])) v
  refine⟨u,o.mono (fun j=>?_),w.trans n,q.trans y⟩;show(if j∈t then (if j=i then M i+8 else M j)+8 else (if j=i then M i+8 else M j))<=if j∈i :: t then M j+8 else M j
  by_cases e:j=i
  ·subst e;rw[if_neg a,if_pos rfl,if_pos (by simp)];exact Int.le_refl _
  ·rw[if_neg e];by_cases b:j∈t
   ·rw[if_pos b,if_pos (by simp[b])];exact Int.le_refl _
   ·rw[if_neg b,if_neg (by simp[e,b])];exact Int.le_refl _
theorem Mh{w:fU}(a:0<=w.time/\w.time<=750000)(b:0<=w.steps):0<=w.step.2/\w.step.2<=35184372088832:=by
 show 0<=w.time*16777216+min (w.steps+1) 16777215/\w.time*16777216+min (w.steps+1) 16777215<=35184372088832;omega
theorem FS.OA{M:Int}(h:FS X F (fun _=>M))(i:M+8<=60000)(l:0<=F.w.time/\F.w.time<=750000):∃a,FS a F.tick.1 (fun _=>M+8)/\a.p=X.p/\a.N=X.N:=by
 unfold FleetD.tick;split
 ·exact⟨X,h.mono (fun _=>by omega),rfl,rfl⟩
 ·rename_i b
  have k:F.w.time<750000:=by
   unfold fU.tick at b;split at b
   ·exact absurd rfl b
   ·omega
  have d:F.w.tick.1={F.w with time:=F.w.time+1,steps:=0,moved:=List.replicate F.w.p.length false}:=by unfold fU.tick;rw[if_neg (by omega)]
  rw[d]
  obtain⟨a,f,c,e⟩:=FS.ticks (Mh (w:={F.w with time:=F.w.time+1,steps:=0,moved:=List.replicate F.w.p.length false}) ⟨by show 0<=F.w.time+1;omega,by show F.w.time+1<=750000;omega⟩ (Int.le_refl 0)) (List.range F.n.length)
   {F with w:=(fU.step {F.w with time:=F.w.time+1,steps:=0,moved:=List.replicate F.w.p.length false}).1} X (fun _=>M) List.nodup_range (fun _ _=>i) (h.of rfl rfl rfl h.mail)
  refine⟨a,f.mono (fun j=>?_),c,e⟩;show(if j∈List.range F.n.length then M+8 else M)<=M+8;split<;>omega
theorem FS.Qb(h:FS X F M)(o:∀j,M j<=60000)(r:0<=F.w.time/\F.w.time<=750000)(s:0<=F.w.steps)(f:∀(n:NodeD) l at_ c b,bL n->bL (n.hear l at_ c b).1)(i:Int):∃d,FS d (F.deliver i).1 M/\d.p=X.p/\d.N=X.N:=by
 unfold FleetD.deliver;split
 ·exact⟨X,h,rfl,rfl⟩
 cases hm:F.a[i.toNat]? with
 | none=>exact⟨X,h,rfl,rfl⟩
 | some m=>
  have t:m∈F.a:=List.mem_of_getElem? hm;simp only;split
  ·exact⟨X,h.of rfl rfl rfl h.mail,rfl,rfl⟩
  ·rename_i v;have e:FS X {F with w:=F.w.step.1,a:=F.a.eraseIdx i.toNat} M:=h.of rfl rfl rfl (fun q u=>h.mail q (List.mem_of_mem_eraseIdx u));split
   ·exact e.PH o (h.mail m t) (Mh r s) (by omega) (fun n _ c b k=>f n _ _ _ _ k)
   ·exact⟨X,e,rfl,rfl⟩
end
theorem JM{m:Int}{v c:Bool}{e f b:El}{k:Int}(h:v=true->e.may=true)(a:setS m v e f=((c,b),k)):c=true->b.may=true:=by
 unfold setS at a;split at a
 ·rename_i d;split at a
  ·injection a with h1 h2;injection h1 with h3 h4;subst h3;subst h4;exact h
  ·injection a with h1 h2;injection h1 with h3 h4;subst h3;subst h4;exact fun _=>d
 ·injection a with h1 h2;injection h1 with h3 h4;subst h3;subst h4;exact h
theorem Kn{c:Bool}{e f b:El}{k d:Int}(h:e.may=true)(i:k=0->f.may=true)(a:takeS true e f k=((c,b),d)):c=true->b.may=true:=by
 unfold takeS at a;split at a
 ·rename_i g;injection a with h1 _;injection h1 with h2 h3;subst h2;subst h3
  exact fun _=>i g
 ·split at a
  ·injection a with h1 _;injection h1 with h2 h3;subst h2
   intro h;cases h
  ·injection a with h1 _;injection h1 with h2 h3;subst h2;subst h3
   exact fun _=>h
theorem Pp{m:Int}{v l:Bool}{e f i:El}{k:Int}(h:v=true->e.may=true)(c:uv m v e f=((l,i),k)):l=true->i.may=true:=by
 unfold uv at c;split at c
 ·rename_i n;subst n;refine Kn (h rfl) ?_ c;intro d;cases hf:f.may with
  | false=>rw[rb _ _ (.inr hf)] at d;cases d
  | true=>
   rcases gholds e f (h rfl) hf 0 0 (g:=(gfuseE e f).1) (k:=(gfuseE e f).2) rfl with ⟨j,-⟩|⟨-,-,a,b,-⟩
   ·rw[d] at j;cases j
   ·exact a
 ·exact JM h c
theorem Nc{m:Int}{v p:Bool}{e n l:El}{d c k:Int}(h:v=true->e.may=true)(f:nh m v e n d c=((p,l),k)):p=true->l.may=true:=by
 unfold nh at f;split at f
 ·rename_i q;subst q;refine Kn (h rfl) ?_ f;intro i;by_cases j:n.may=true/\aJ d c=true
  ·rcases upd_less (h rfl) j.1 j.2 (o:=(updE e n d c).1) (k:=(updE e n d c).2) rfl with ⟨g,-⟩|⟨-,a,b⟩
   ·rw[i] at g;cases g
   ·exact a
  · have : n.may = false ∨ aJ d c = false := by
      cases a:n.may<;>cases b:aJ d c<;>simp_all
    rw[jx _ _ _ _ (.inr this)] at i;cases i
 ·split at f
  ·exact JM h f
  ·injection f with h1 _;injection h1 with h2 g;subst h2;subst g;exact h
theorem bL.filt{n:NodeD}(h:bL n){r:(Bool×El)×Int}(a:r.1.1=true->r.1.2.may=true):bL (nf n r):=⟨h.c,h.id,h.boot,h.seq,h.bad,h.t,h.b,h.tm,a⟩
theorem bL.tab{n:NodeD}(h:bL n){t:cB}(a:dA t):bL {n with t:=t}:=⟨h.c,h.id,h.boot,h.seq,h.bad,a,h.b,h.tm,h.fe⟩
theorem bL.Qx{n:NodeD}(h:bL n):bL {n with bad:=min (n.bad+1) 1000000}:=⟨h.c,h.id,h.boot,h.seq,by have:=h.bad;show 0<=min (n.bad+1) 1000000/\min (n.bad+1) 1000000<=1000000;omega,h.t,h.b,h.tm,h.fe⟩
theorem bL.measured{n:NodeD}(h:bL n)(k:Int)(t:Oh)(a b:Int):bL (n.measured k t a b):=by
 unfold NodeD.measured;simp only;split
 ·exact h
 ·split
  ·exact h.filt (Nc (k:=(nh n.cap n.fv n.fe (n.track k b).1 _ _).2) h.fe rfl)
  ·exact h
theorem bL.ranging{n:NodeD}(h:bL n)(f:FrD)(c b a:Int):bL (n.ranging f c b a).1:=by
 unfold NodeD.ranging;simp only;split
 ·split
  ·exact((h.upd _ _).send _ _ _).upd _ _
  ·exact(h.upd _ _).send _ _ _
 ·split
  ·split
   ·exact h.upd _ _
   ·split
    ·exact((h.upd _ _).upd _ _).send _ _ _
    ·exact(h.upd _ _).upd _ _
  ·split
   ·split
    ·exact(h.upd _ _).measured _ _ _ _
    ·exact h.upd _ _
   ·exact h
theorem dA.putT{t:cB}(h:dA t)(k:Int)(e:El)(a:Int):dA (t.put k e a).1:=by
 unfold cB.put;split
 ·exact h
 ·rename_i x i;split
  ·exact h
  ·rename_i d;have b:=h.ents _ (pb i);have g:cA a=true:=by cases q:cA a;exact absurd (.inr q) d;rfl
   have f:e.may=true:=by cases q:e.may;exact absurd (.inl q) d;rfl
   have c:=(zD _).1 g;exact h.put k _ ⟨b.1,b.2.1,b.2.2.1,b.2.2.2.1,b.2.2.2.2.1,b.2.2.2.2.2.1,b.2.2.2.2.2.2.1,fun _=>f,c.1,c.2⟩
theorem bL.put{n:NodeD}(h:bL n)(k:Int)(e:El)(when now:Int):bL (n.put k e when now):=by
 unfold NodeD.put;split
 ·exact h
 ·exact h.tab (h.t.putT _ _ _)
theorem bL.tracked{n:NodeD}(h:bL n)(f:FrD)(a:Int):bL (n.tracked f a):=by
 unfold NodeD.tracked;split
 ·split
  ·exact h.filt (Pp (k:=(uv n.cap n.fv n.fe (n.at f.el f.when a).1).2) h.fe rfl)
  ·exact h
 ·split
  ·exact h.put _ _ _ _
  ·exact h
theorem dA.leave{t:cB}(h:dA t)(n:Int):dA (t.leave n).1:=by
 unfold cB.leave;split
 ·rename_i l b;have a:=h.lives _ (pb b);exact(h.live n {l with left:=true} ⟨a.1,a.2.1⟩ a.2.2).drop n
 ·exact h
theorem bL.take{n:NodeD}(h:bL n)(f:FrD)(c b a:Int):bL (n.take f c b a).1:=by
 unfold NodeD.take;split
 ·exact h.put _ _ _ _
 ·split
  ·exact h.tracked _ _
  ·split
   ·split
    ·exact h.ranging _ _ _ _
    ·exact h
   ·split
    ·exact h.tab (h.t.leave _)
    ·exact h
theorem bL.hear{n:NodeD}(h:bL n)(l:List Nat)(a now fine:Int):bL (n.hear l a now fine).1:=by
 unfold NodeD.hear;split
 ·exact h
 ·split
  ·exact h.Qx
  ·simp only;split
   ·exact h
   ·split
    ·exact h
    ·split
     ·exact h.tab (h.t.hear _ _ _ _)
     ·exact(h.tab (h.t.hear _ _ _ _)).take _ _ _ _
section
variable {ow:Nat->Nat} {w wr:World} {g tw ta:Nat} {gs:List Nat} {nv bv:Value} {F:FleetD} {v:Value} {dt:List Nat}
theorem Lp.enc(h:Lp ow w g tw ta gs nv bv F wr){f e:World}(a:zB wr f)(m:zB f e)(n:RdS (fun b=>f.heap.size<=b) e v dt):pt ow w g tw ta gs nv bv F v dt e:=by
 obtain⟨d,l,j⟩:=h;have c:zB wr e:=a.trans (m.mono a.size)
 exact⟨ext d wr.heap.size 0,l.below c 0,j.trans (FT.of_below c 0),n.kept (Nat.le_refl _) (fun _ _ _=>rfl) (fun k _ i=>by
  have:=a.size;have i:f.heap.size<=k:=i;show ext d wr.heap.size 0 k=0;unfold ext;rw[if_neg (by omega)])⟩
theorem pt.out(h:pt ow w g tw ta gs nv bv F v dt wr):Lp ow w g tw ta gs nv bv F wr:=by
 obtain⟨a,h1,h2,-⟩:=h;exact⟨a,h1,h2⟩
theorem pt.rd(h:pt ow w g tw ta gs nv bv F v dt wr):RdB wr v dt:=by
 obtain⟨a,d,c,b⟩:=h;exact b.rd
theorem pt.tru(h:pt ow w g tw ta gs nv bv F v dt wr):∃S pv mv,ph S wr tw F.w pv mv:=by
 obtain⟨b,c,-⟩:=h;obtain⟨pv,mv,a⟩:=c.t;exact⟨_,pv,mv,a⟩
theorem pt.PL(h:pt ow w g tw ta gs nv bv F v dt wr)(a:cV F)(i j:Nat)(d:i<F.n.length)(c:j<F.n.length):zR 132 #[ptr tw,i,j] wr (.int .i64 (F.w.flight i j)):=by
 obtain⟨S,pv,mv,b⟩:=h.tru;exact MT b a.t i j (by rw[a.p];exact d) (by rw[a.p];exact c)
theorem pt.J4(h:pt ow w g tw ta gs nv bv F v dt wr)(a:cV F)(i:Nat)(c:i<F.n.length)(G:Int)(d:0<=G/\G<=70368744177664):zR 69 #[ptr tw,i,G] wr (.int .i64 (F.w.fine i G)):=by
 obtain⟨S,pv,mv,b⟩:=h.tru;exact Mg b a.t i (by rw[a.p];exact c) G d
theorem pt.put_c(h:pt ow w g tw ta gs nv bv F v dt wr)(o:cV F)(m:gE)(d:m.data=dt)(q:dt.length<=1000000):Calls prog 133 #[ptr ta,AB m v] wr fun e c=>e=.returned (.bool (airPut F.a m).2)/\pt ow w g tw ta gs nv bv {F with a:=(airPut F.a m).1} v dt c:=by
 have l:=h.rd;obtain⟨b,f,k,n⟩:=h;refine(QE f.a (Nat.le_trans o.a (by decide)) m v (by rw[d];exact l) (by rw[d];exact q)).mono ?_;rintro e c ⟨rfl,i,p⟩;have j:FT R12 b (ext b wr.heap.size 2) wr c:=FT.zZ (.inr rfl) i 2;exact⟨rfl,_,f.Ki i p,k.trans j,j.rdS O4 n⟩
theorem pt.lost(h:pt ow w g tw ta gs nv bv F v dt wr)(x:Int):pt ow w g tw ta gs nv bv {F with lost:=x} v dt (wr.setCell ⟨g,15,none⟩ (.int .i64 x)):=by
 obtain⟨c,a,j,l⟩:=h;have O:ah g wr (wr.setCell ⟨g,15,none⟩ (.int .i64 x)):=ah.refl.setCell 15 _;have f:bg (fun k=>c k=1) wr (wr.setCell ⟨g,15,none⟩ (.int .i64 x)):=bg.cU O (.inl a.og);have d:aa (fun _=>True) [73] false wr _:=aa.cU O a.blk (List.mem_singleton.2 rfl) trivial;have i:FT R12 c (ext c wr.heap.size 1) wr _:=FT.zZ (.inl rfl) f 1;exact⟨_,a.MH f (nv':=nv) (bv':=bv) (lost:=x) (on':=F.on) ((a.blk.ab 15 _).of_eq rfl) (fW a.rn d (by decide)) (fun b e=>.inl (a.sn b e)) (fW a.rb d (by decide)) (fun b e=>.inl (a.sb b e)),j.trans i,i.rdS O4 l⟩
end
theorem Sh{ow:Nat->Nat}{w:World}{g tw ta:Nat}{gs:List Nat}{nv bv:Value}{F:FleetD}(H:cY ow w g tw ta gs nv bv F)(OK:cV F)(i:Nat)(hi:i<F.n.length)(lv:Value)(l:List ky)(hr:w.ownsRow 0 195 16 lv l.length (l.flatMap Cj))(hs:∀b,lv.ownBlock=some b->¬R12 (ow b))(hl:l.length<=1000000)(G:Int)(hG:0<=G/\G<=35184372088832):Calls prog 66 #[ptr g,i,lv,G] w fun e D=>e=.returned (.tuple #[])/\Lp ow w g tw ta gs nv bv (F.send i l G) D:=by
 obtain⟨ao,J,rfl⟩:=kh hr;obtain⟨Y,cn,rfl⟩:=kh H.rn;obtain⟨ab,X,rfl⟩:=kh H.rb;have b6:=H.ln;have d7:F.n.length<=64:=by rw[<-OK.p];exact OK.t.len
 have H0:Hid (Lp ow w g tw ta gs (.slice Y gs.length cn) (.slice ab F.on.length X) F w):=⟨ow,H,FT.refl⟩
 have HR:Hid (∀k wr o,l[k]?=some o->Lp ow w g tw ta gs (.slice Y gs.length cn) (.slice ab F.on.length X) (F.send i (l.take k) G) wr->∃b q,(.slice ao l.length J:Value)=.slice (some ⟨b,0,none⟩) l.length q/\b<wr.heap.size/\wr.row? b (k*16) 16=some (Cj o).toArray):=by
  intro k wr o ho ⟨d1,h1,h2⟩;obtain⟨b,q,e1,e2,e3,-⟩:=Cs (f:=Cj) (s:=16) (fun _=>rfl) (by decide) (h2.row hr hs).1 ho rfl;exact⟨b,q,e1,e2,e3⟩
 have HE:Hid (∀f d,Calls prog 131 #[frV f] d fun e D=>∃ao J k,e=.returned (.tuple #[.slice ao (dataF f).length J,.int .i64 k])/\RdS (fun b=>d.heap.size<=b) D (.slice ao (dataF f).length J) (dataF f)/\zB d D):=fun f d=>Vc f d;have c5:=Lh OK;have a5:=Lh b6;have b0:=Lh OK.lo;clear H OK hr hs b6;go_enter func66,ntmps66;go_wp2_with fail;go_loopw [16] (fun Q wr=>∃k:Nat,k<=l.length/\Q=.int .i64 k/\Hid (Lp ow w g tw ta gs (.slice Y gs.length cn) (.slice ab F.on.length X) (F.send i (l.take k) G) wr)) (fun Q _=>l.length-(intOf Q).toNat)
 case atStart=>exact⟨0,by omega,rfl,H0⟩
 case round=>
  obtain⟨k,hk,rfl,HK⟩:=hrel;by_cases b1:k<l.length
  ·obtain⟨o,ho⟩:∃o,l[k]?=some o:=⟨_,List.getElem?_eq_getElem b1⟩;obtain⟨b,q,c8,d5,b3⟩:=HR.out k wr o ho HK.out;injection c8 with M _ hb2
   subst M;subst hb2;have k1:(k:Int)<(l.length:Int):=by omega
   have k2:(0:Int)<=(k:Int):=by omega
   have HO:=Lh ho;obtain⟨⟨fk,fs,fb,fq,U,fd,P,O,fw,V,fx,fy,fa,W,N⟩,fi⟩:=o;have c7:wr.row? b (k*16) 16=some #[.int .i64 fk,.int .i64 fs,.int .i64 fb,.int .i64 fq,.int .i64 U,.int .i64 fd,.int .i64 P,.int .i64 O,.int .i64 fw,.int .i64 V,.int .i64 fx,.int .i64 fy,.int .i64 fa,.int .i64 W,.int .i64 N,.int .i64 fi]:=b3;clear b3 ho b1;go_wp2_with fail;refine(HE.out ⟨fk,fs,fb,fq,U,fd,P,O,fw,V,fx,fy,fa,W,N⟩ _).mono ?_;rintro e d ⟨aZ,cd,ke,rfl,hd,M⟩;obtain⟨dt,L⟩:∃dt,dataF ⟨fk,fs,fb,fq,U,fd,P,O,fw,V,fx,fy,fa,W,N⟩=dt:=⟨_,rfl⟩;have d2:dt.length<=80:=by rw[<-L];exact NS _
   rw[L] at hd ⊢;have Z:=M0 F i l G k _ HO.out;simp only at Z;rw[L] at Z;have Z:=Lh Z;obtain⟨C,T⟩:∃C,F.send i (l.take k) G=C:=⟨_,rfl⟩;have c1:Hid (cV C):=by rw[<-T];exact IB c5.out i G _
   have m:=zM F i G (l.take k);rw[T] at HK Z m;have H1:Hid (pt ow w g tw ta gs (.slice Y gs.length cn) (.slice ab F.on.length X) C (.slice aZ dt.length cd) dt d):=HK.out.enc ((Below.refl _ _).alloc (Nat.le_refl _) _) M hd;have I:=Lh m;clear hd M c7 HK L T m;obtain⟨q0,q1,a9,a3,a6,f1,y1⟩:=H1.out.cells;go_wp2_with fail;clear q0 q1 a9 a3 a6 f1 y1;go_loopw [31] (fun R wr=>∃j:Nat,j<=gs.length/\R=.int .i64 j/\Hid (pt ow w g tw ta gs (.slice Y gs.length cn) (.slice ab F.on.length X) (sendJ C i dt G j) (.slice aZ dt.length cd) dt wr)) (fun R _=>gs.length-(intOf R).toNat)
   case atStart=>exact⟨0,by omega,rfl,H1⟩
   case round=>
    obtain⟨j,hj,rfl,E⟩:=hrel;by_cases d8:j<gs.length
    ·have j1:(j:Int)<(gs.length:Int):=by omega
     have j2:(0:Int)<=(j:Int):=by omega
     have b2:j<F.n.length:=by have:=a5.out;omega
     obtain⟨s1,s2,s3,s4⟩:=C6 C i dt G j;have y:Hid (cV (sendJ C i dt G j)):=IC c1.out i dt G j;have EJ:=Lh (C5 C i dt G j);obtain⟨c,a1⟩:∃c,sendJ C i dt G j=c:=⟨_,rfl⟩;rw[a1] at E s1 s2 s3 s4 y EJ;have h:c.on=F.on:=s2.trans I.out.2.1;have x:c.n=F.n:=s1.trans I.out.1;have u:c.w=F.w:=s3.trans I.out.2.2.1;clear a1 s1 s2 s3 s4;obtain⟨q0,q1,a9,a3,a6,f1,y1⟩:=E.out.cells;by_cases A:j=i
     ·have EN:Hid (c.lm i j dt G=c):=KH _ _ _ _ _ (.inl A);subst A;clear h x u;go_wp2_with fail;go_roundw
      case rel=>
       refine⟨j+1,by omega,by go_num,?_⟩;show pt _ _ _ _ _ _ _ _ _ _ _ _;rw[EJ.out,EN.out];exact E.out
      case measure=>exact(by first|(simp[intOf];done)|(simp[intOf];omega))
     ·obtain⟨bb,B⟩:∃b,F.on[j]?=some b:=⟨_,List.getElem?_eq_getElem (by have:=b0.out;omega)⟩;obtain⟨ob,d0,e2,d4⟩:=E.out.on (j:=j) (k:=bb) (by rw[h];exact B);rw[h] at e2;injection e2 with e2 _ _;subst e2
      have jb:(j:Int)<(F.on.length:Int):=by have:=b0.out;omega
      have c9:¬(j:Int)=(i:Int):=by omega
      cases bb with
      | false=>
       have EN:Hid (c.lm i j dt G=c):=KH _ _ _ _ _ (.inr (by rw[h,List.getD_eq_getElem?_getD,B];rfl));clear h x u B A;go_wp2_with fail;go_roundw
       case rel=>
        refine⟨j+1,by omega,by go_num,?_⟩;show pt _ _ _ _ _ _ _ _ _ _ _ _;rw[EJ.out,EN.out];exact E.out
       case measure=>exact(by first|(simp[intOf];done)|(simp[intOf];omega))
      | true=>
       have EN:=Lh (Pu c i j dt G A (by rw[h,List.getD_eq_getElem?_getD,B];rfl));have fb:=NI F.w i j;obtain⟨fl,K⟩:∃fl,F.w.flight i j=fl:=⟨_,rfl⟩;rw[K] at fb;have d6:=hG.1;have e6:=hG.2;have e5:IntKind.i64.wrap (G+fl)=G+fl:=IntWalk.i64_in _ (by omega);have EM:Hid (mailM c i j dt G=⟨j,dt,F.w.fine j (G+fl),G+fl,false⟩):=by show _=_;unfold mailM;rw[u,K]
       have c6:zX wr 132 #[ptr tw,i,j] (.int .i64 fl):=fun d B=>by
        have:=(E.out.below B).PL y.out i j (by rw[x];exact hi) (by rw[x];exact b2);rw[u,K] at this;exact this
       have a4:Hid (∀d,zB wr d->zR 69 #[ptr tw,j,.int .i64 (G+fl)] d (.int .i64 (F.w.fine j (G+fl)))):=fun d B=>by
        have:=(E.out.below B).J4 y.out j (by rw[x];exact b2) (G+fl) (by omega);rw[u] at this;exact this
       obtain⟨c4,b4⟩:∃z,F.w.fine j (G+fl)=z:=⟨_,rfl⟩;rw[b4] at a4 EM;obtain⟨⟨a2,kb⟩,S⟩:∃r,airPut c.a (mailM c i j dt G)=r:=⟨_,rfl⟩
       have c3:Hid (∀d,zB wr d->Calls prog 133 #[ptr ta,.agg #[j,.slice aZ dt.length cd,c4,.int .i64 (G+fl),false]] d fun e D=>e=.returned (.bool kb)/\Hid (pt ow w g tw ta gs (.slice Y gs.length cn) (.slice (some ⟨ob,0,none⟩) F.on.length X) {c with a:=a2} (.slice aZ dt.length cd) dt D)):=fun d B=>by
        have:=(E.out.below B).put_c y.out (mailM c i j dt G) rfl (by omega);rw[S,EM.out] at this;exact this
       have c2:Hid (c.lm i j dt G={c with a:=a2,lost:=if kb then c.lost else min (c.lost+1) 1000000}):=by show _=_;rw[EN.out,S]
       have lb:=y.out.lost;obtain⟨e0,d3⟩:=lb;have e7:IntKind.i64.wrap (c.lost+1)=c.lost+1:=IntWalk.i64_in _ (by omega);clear h x u B A EN S K fb b4;go_wp2_with (go_at_call 132;refine(c6.out _ ad).mono ?_;rintro e w3 ⟨rfl,b5⟩;have a8:=b5.size;(try simp at a8);have b7:=bq b5 (g))
       go_region_held3 (fun D=>D.cell? ⟨g,0,none⟩=some (ptr tw)/\D.cell? ⟨g,1,none⟩=some (ptr ta)) (go_simp)
        (first
        | (go_at_call 69;refine(a4.out _ ad).mono ?_;rintro e w4 ⟨rfl,a0⟩;have a7:=a0.size;(try simp at a7);have b8:=bq a0 (g))
        | (go_at_call 133;refine(c3.out _ ad).mono ?_;rintro e w5 ⟨rfl,HP⟩;obtain⟨p0,p1,e8,d9,e4,pf,py⟩:=HP.out.cells))
       all_goals cases kb
       all_goals go_wp2_with fail
       all_goals go_roundw
       all_goals first
        | exact(by first|(simp[intOf];done)|(simp[intOf];omega))
        | (refine⟨j+1,by omega,by go_num,?_⟩;show pt _ _ _ _ _ _ _ _ _ _ _ _;rw[EJ.out,c2.out];first|exact HP.out|exact HP.out.lost _)
    ·have b9:j=gs.length:=by omega
     subst b9;have j1:¬((gs.length:Int)<(gs.length:Int)):=by omega
     go_wp2_with fail;go_roundw
     case rel=>
      refine⟨k+1,by omega,by go_num,?_⟩;show Lp _ _ _ _ _ _ _ _ _ _;rw[Z.out,I.out.1,<-a5.out];exact E.out.out
     case measure=>exact(by first|(simp[intOf];done)|(simp[intOf];omega))
  ·have c0:k=l.length:=by omega
   subst c0;have k1:¬((l.length:Int)<(l.length:Int)):=by omega
   go_wp2_with fail;refine bodyPost_end (results_none rfl _ _ _) rfl ?_;have:=HK.out;rw[List.take_length] at this;exact⟨rfl,this⟩
theorem IP:(prog.info? 4).map (fun i=>(i.zero,i.size,i.bytes))=some (some (.bool false),1,1):=by kernel_rfl
theorem Ti(n:Nat):(madeCells #[Value.bool false] n).toList=(List.replicate n false).map Value.bool:=by
 rw[toList_madeCells_one];simp
theorem F4(w:World)(n:Nat)(h:n<=maxLen):(w.alloc (.cells (madeCells #[.bool false] n) 4)).ownsRow 0 4 1 (.slice (some ⟨w.heap.size,0,none⟩) n n) n ((List.replicate n false).map Value.bool):=by
 have a:(madeCells #[Value.bool false] n).size=n:=by rw[<-Array.length_toList,Ti];simp
 exact⟨by simp,.inr ⟨w.heap.size,n,_,rfl,Nat.zero_le _,heap_alloc_new w _,Nat.le_refl _,h,by rw[a,Nat.mul_one],by rw[Ti,Nat.mul_one,List.take_of_length_le (by simp)]⟩⟩
section
variable {S:Nat->Prop} {w:World} {g:Nat} {T:fU} {pv mv:Value} (H:ph S w g T pv mv)
include H
theorem QY(h:Ag T)(C:T.time<750000):Calls prog 64 #[ptr g] w fun e k=>e=.returned (.bool true)/\bg S w k/\A6 (Sn S w) k g T.tick.1:=by
 have x:=h.len;have m:=h.time.1;have t:Hid (T.tick.1={T with time:=T.time+1,steps:=0,moved:=List.replicate T.p.length false}):=by show _=_;unfold fU.tick;rw[if_neg (by omega)]
 obtain⟨i,a,rfl⟩:=kh H.rp;have r:w.cell? ⟨g,13,none⟩=some (.int .i64 T.time):=H.blk.cell rfl;have q:w.cell? ⟨g,11,none⟩=some (.slice i T.p.length a):=H.blk.cell rfl;have o:w.cell? ⟨g,14,none⟩=some (.int .i64 T.steps):=H.blk.cell rfl;have v:w.cell? ⟨g,12,none⟩=some mv:=H.blk.cell rfl;have E:=H.blk.frozen;have A:=H.blk.lt;have D:¬(750000:Int)<=T.time:=by omega
 have y:IntKind.i64.wrap (T.time+1)=T.time+1:=IntWalk.i64_in _ (by omega);have B:=run_make_row' (P:=prog) 71 4 (.bool false) 1 underlying71 IP rfl .i64 .i64 T.p.length (by omega) (by omega);have c:=Lh H;have n:=Lh x;clear H h;go_enter func64,ntmps64;go_wp2_with fail;go_ret;obtain⟨z,d⟩:∃z,((w.setCell ⟨g,13,none⟩ (.int .i64 (T.time+1))).setCell ⟨g,14,none⟩ (.int .i64 0)).setCell ⟨g,12,none⟩ (.slice (some ⟨w.heap.size,0,none⟩) T.p.length T.p.length)=z:=⟨_,rfl⟩;have j:ah g w z:=by rw[<-d];exact((ah.refl.setCell 13 _).setCell 14 _).setCell 12 _
 have u:Blk z g (MJ {T with time:=T.time+1,steps:=0,moved:=List.replicate T.p.length false} (.slice i T.p.length a) (.slice (some ⟨w.heap.size,0,none⟩) T.p.length T.p.length)) 134:=by
  rw[<-d];exact(((c.out.blk.ab 13 _).ab 14 _).ab 12 _).of_eq rfl
 have f:z.heap.size=w.heap.size:=by rw[<-d];simp
 rw[d];have l:=F4 z T.p.length (by have:=n.out;unfold maxLen;omega);rw[f] at l;have s:aa (fun _=>True) [134] false w _:=aa.cU (j.alloc (.cells (madeCells #[.bool false] T.p.length) 4)) c.out.blk (List.mem_singleton.2 rfl) trivial;rw[t.out];refine⟨rfl,bg.cU (j.alloc _) (.inl c.out.sg),.slice i T.p.length a,.slice (some ⟨w.heap.size,0,none⟩) T.p.length T.p.length,?_⟩;refine⟨u.alloc _,.inl c.out.sg,fW c.out.rp s (by decide),fun b e=>.inl (c.out.sp b e),?_,fun b e=>.inr (by injection e with e;simp only at e;omega)⟩;simpa using l
end
def Rn(o:Nat):Prop:=o≠0
theorem M5:¬Rn 0:=fun h=>h rfl
def FlO(ow:Nat->Nat)(w:World)(g tw ta:Nat)(gs:List Nat)(nv bv:Value)(F:FleetD)(wr:World):Prop:=
 ∃owr,cY owr wr g tw ta gs nv bv F/\FT Rn ow owr w wr
def FlV(ow:Nat->Nat)(w:World)(g tw ta:Nat)(gs:List Nat)(nv bv:Value)(F:FleetD)(o:List ky)(v:Value)(wr:World):Prop:=
 ∃owr,cY owr wr g tw ta gs nv bv F/\FT Rn ow owr w wr/\wr.ownsRow 0 195 16 v o.length (o.flatMap Cj)/\∀b,v.ownBlock=some b->¬R12 (owr b)
section
variable {ow:Nat->Nat} {w wr:World} {g tw ta:Nat} {gs:List Nat} {nv bv:Value} {F:FleetD}
theorem FlO.below(h:FlO ow w g tw ta gs nv bv F wr){a:World}(hb:zB wr a):FlO ow w g tw ta gs nv bv F a:=by
 obtain⟨c,d,b⟩:=h;exact⟨_,d.below hb 0,b.trans (FT.of_below hb 0)⟩
theorem FlO.cells(h:FlO ow w g tw ta gs nv bv F wr):wr.cell? ⟨g,0,none⟩=some (ptr tw)/\wr.cell? ⟨g,1,none⟩=some (ptr ta)/\wr.cell? ⟨g,13,none⟩=some nv/\wr.cell? ⟨g,14,none⟩=some bv/\wr.cell? ⟨g,15,none⟩=some (.int .i64 F.lost)/\(∀o,wr.frozen? ⟨g,o,none⟩=false)/\g<wr.heap.size:=by
 obtain⟨b,a,-⟩:=h;exact⟨a.blk.cell rfl,a.blk.cell rfl,a.blk.cell rfl,a.blk.cell rfl,a.blk.cell rfl,a.blk.frozen,a.blk.lt⟩
theorem FlO.on(h:FlO ow w g tw ta gs nv bv F wr){j:Nat}{k:Bool}(c:F.on[j]?=some k):∃b a,bv=.slice (some ⟨b,0,none⟩) F.on.length a/\b<wr.heap.size/\wr.cell? ⟨b,j,none⟩=some (.bool k):=by
 obtain⟨i,l,-⟩:=h;obtain⟨b,a,e,f,-,d⟩:=zV l.rb (k:=j) (x:=.bool k) (by rw[List.getElem?_map,c];rfl);exact⟨b,a,e,f,d⟩
theorem FlO.node(h:FlO ow w g tw ta gs nv bv F wr){j:Nat}(l:j<F.n.length):∃b a,nv=.slice (some ⟨b,0,none⟩) gs.length a/\b<wr.heap.size/\wr.cell? ⟨b,j,none⟩=some (ptr (gs.getD j 0)):=by
 obtain⟨i,c,-⟩:=h;have m:=c.ln;obtain⟨b,a,e,f,-,d⟩:=zV c.rn (k:=j) (x:=ptr (gs.getD j 0)) (by rw[List.getElem?_map,List.getD_eq_getElem?_getD,List.getElem?_eq_getElem (by omega)];rfl);exact⟨b,a,e,f,d⟩
theorem FlO.tru(h:FlO ow w g tw ta gs nv bv F wr):∃S pv mv,ph S wr tw F.w pv mv:=by
 obtain⟨b,c,-⟩:=h;obtain⟨pv,mv,a⟩:=c.t;exact⟨_,pv,mv,a⟩
theorem FlO.Tf(h:FlO ow w g tw ta gs nv bv F wr)(a:cV F)(i:Nat)(c:i<F.n.length):zR 68 #[ptr tw,i] wr (.int .i64 (F.w.now i)):=by
 obtain⟨S,pv,mv,b⟩:=h.tru;exact Tv b a.t i (by rw[a.p];exact c)
theorem FlO.J4(h:FlO ow w g tw ta gs nv bv F wr)(a:cV F)(i:Nat)(c:i<F.n.length)(G:Int)(d:0<=G/\G<=70368744177664):zR 69 #[ptr tw,i,G] wr (.int .i64 (F.w.fine i G)):=by
 obtain⟨S,pv,mv,b⟩:=h.tru;exact Mg b a.t i (by rw[a.p];exact c) G d
theorem FlO.step_c(h:FlO ow w g tw ta gs nv bv F wr)(n:cV F):Calls prog 65 #[ptr tw] wr fun e a=>e=.returned (.int .i64 F.w.step.2)/\FlO ow w g tw ta gs nv bv {F with w:=F.w.step.1} a:=by
 obtain⟨b,d,j⟩:=h;obtain⟨pv,mv,c⟩:=d.t;refine(QZ c n.t).mono ?_;rintro e a ⟨rfl,i,m⟩;have f:bg (fun k=>b k=3) wr a:=bg.cU i (.inl c.sg);exact⟨rfl,_,d.Kh f ⟨pv,mv,m.kept (fun _ _ _=>rfl) (fun k _ l=>.inl l)⟩,j.trans (FT.zZ (by unfold Rn;decide) f 3)⟩
theorem FlO.QN(h:FlO ow w g tw ta gs nv bv F wr)(k:cV F)(a:F.w.time<750000):Calls prog 64 #[ptr tw] wr fun e b=>e=.returned (.bool true)/\FlO ow w g tw ta gs nv bv {F with w:=F.w.tick.1} b:=by
 obtain⟨f,c,d⟩:=h;obtain⟨pv,mv,j⟩:=c.t;refine(QY j k.t a).mono ?_;rintro e b ⟨rfl,a,i⟩;exact⟨rfl,_,c.Kh a i,d.trans (FT.zZ (by unfold Rn;decide) a 3)⟩
theorem FlO.Nj(h:FlO ow w g tw ta gs nv bv F wr)(i:Nat)(n d:NodeD)(c a:Int)(o:List ky)(f:F.n[i]?=some n)(s:QH n d c a o):Calls prog 67 #[ptr (gs.getD i 0),c,a] wr fun e k=>∃v,e=.returned v/\FlV ow w g tw ta gs nv bv (F.setN i d) o v k:=by
 obtain⟨q,l,m⟩:=h;obtain⟨L,r⟩:=l.n i n f;refine(s _ _ _ _ r).mono ?_;rintro e k ⟨v,rfl,j,t,x,u⟩;refine⟨v,rfl,_,l.Jh i (List.getElem?_eq_some_iff.1 f).1 j t,m.trans (FT.zZ (by unfold Rn;omega) j (i+4)),x,fun b y=>?_⟩;have p:=Bp (u b y);rw[p];unfold R12;omega
theorem FlO.Nk(h:FlO ow w g tw ta gs nv bv F wr)(i:Nat)(n r:NodeD)(l:List Nat)(m d a:Int)(o:List ky)(c:F.n[i]?=some n)(z:MB n r l m d a o)(v:Value)(y:RdB wr v l):Calls prog 146 #[ptr (gs.getD i 0),v,m,d,a] wr fun e q=>∃vo k,e=.returned (.tuple #[vo,k])/\FlV ow w g tw ta gs nv bv (F.setN i r) o vo q:=by
 obtain⟨f,s,t⟩:=h;obtain⟨L,x⟩:=s.n i n c;refine(z (Sn (fun k=>f k=i+4) wr) _ _ _ _ (x.mono (fun k _ p=>.inl p)) (fun k p=>.inr p) y).mono ?_;rintro e q ⟨vo,k,rfl,B,A,D,C⟩
 have j:bg (fun k=>f k=i+4) wr q:=B.mono (fun k p c=>by
  rcases c with c|c
  ·exact c
  ·omega)
 refine⟨vo,k,rfl,_,s.Jh i (List.getElem?_eq_some_iff.1 c).1 j A,t.trans (FT.zZ (by unfold Rn;omega) j (i+4)),D,fun b E=>?_⟩;have u:=Bp (C b E);rw[u];unfold R12;omega
theorem FlV.fl{o:List ky}{v:Value}(h:FlV ow w g tw ta gs nv bv F o v wr):FlO ow w g tw ta gs nv bv F wr:=by
 obtain⟨a,c,b,-⟩:=h;exact⟨a,c,b⟩
theorem FlV.OT{o:List ky}{v:Value}(h:FlV ow w g tw ta gs nv bv F o v wr)(l:cV F)(i:Nat)(p:i<F.n.length)(a:o.length<=1000000)(G:Int)(r:0<=G/\G<=35184372088832):Calls prog 66 #[ptr g,i,v,G] wr fun e c=>e=.returned (.tuple #[])/\FlO ow w g tw ta gs nv bv (F.send i o G) c:=by
 obtain⟨f,q,d,j,s⟩:=h;refine(Sh q l i p v o j s a G r).mono ?_;rintro e c ⟨rfl,b,k,m⟩;exact⟨rfl,b,k,d.trans (m.mono (fun o a=>by unfold Rn;unfold R12 at a;omega))⟩
end
def tickJ(F:FleetD)(G:Int)(k:Nat):FleetD:=(List.range k).foldl (fun f i=>f.lY i G) F
theorem zU(F:FleetD)(G:Int)(k:Nat):tickJ F G (k+1)=(tickJ F G k).lY k G:=by unfold tickJ;rw [List.range_succ,List.foldl_append];rfl
theorem Ii{F:FleetD}(h:cV F)(i:Nat)(n:NodeD):cV (F.setN i n):=
 ⟨h.t,by show _=(F.n.set i n).length;rw[List.length_set];exact h.p,h.a,h.d,h.lost,by show _=(F.n.set i n).length;rw[List.length_set];exact h.lo⟩
theorem Is(F:FleetD)(i:Nat)(G:Int):(F.lY i G).on=F.on/\(F.lY i G).w=F.w/\(F.lY i G).c=F.c/\(F.lY i G).n.length=F.n.length/\∀j,i≠j->(F.lY i G).n[j]? = F.n[j]?:=by
 unfold FleetD.lY;split
 ·exact⟨rfl,rfl,rfl,rfl,fun _ _=>rfl⟩
 ·rename_i n h;split
  ·obtain⟨d,b,a,e⟩:=zM (F.setN i (n.tick (F.w.now i) (F.w.fine i G)).1) i G (n.tick (F.w.now i) (F.w.fine i G)).2;rw[d,b,a,e];refine⟨rfl,rfl,rfl,?_,fun j f=>?_⟩
   ·show(F.n.set i _).length=_;rw[List.length_set]
   ·show(F.n.set i _)[j]? = _;rw[List.getElem?_set,if_neg f]
  ·exact⟨rfl,rfl,rfl,rfl,fun _ _=>rfl⟩
theorem A7(F:FleetD)(G:Int):∀k,(tickJ F G k).on=F.on/\(tickJ F G k).w=F.w/\(tickJ F G k).c=F.c/\(tickJ F G k).n.length=F.n.length/\∀j,k<=j->(tickJ F G k).n[j]? = F.n[j]?
 | 0=>⟨rfl,rfl,rfl,rfl,fun _ _=>rfl⟩
 | k+1=>by
  obtain⟨e,f,l,b,m⟩:=A7 F G k
  obtain⟨i,d,a,h,o⟩:=Is (tickJ F G k) k G
  rw[zU]
  exact⟨i.trans e,d.trans f,a.trans l,h.trans b,fun j p=>(o j (by omega)).trans (m j (by omega))⟩
theorem OB{F:FleetD}(h:cV F)(i:Nat)(G:Int):cV (F.lY i G):=by
 unfold FleetD.lY;split
 ·exact h
 ·split
  ·exact IB (Ii h i _) i G _
  ·exact h
theorem Kk{F:FleetD}(h:cV F)(G:Int):∀k,cV (tickJ F G k)
 | 0=>h
 | k+1=>by rw[zU];exact OB (Kk h G k) _ _
theorem In{T:fU}(h:Ag T)(a:T.time<750000):Ag T.tick.1:=by
 unfold fU.tick;rw[if_neg (by omega)];have:=h.time;exact⟨h.c,h.n,h.p,by simp only;omega,⟨Int.le_refl 0,by show(0:Int)<=16777215;decide⟩⟩
theorem vv{T:fU}(h:Ag T):Ag T.step.1:=by
 unfold fU.step;have:=h.steps;exact⟨h.c,h.n,h.p,h.time,by simp only;omega⟩
theorem Io{T:fU}(h:Ag T):0<=T.step.2/\T.step.2<=35184372088832:=by
 unfold fU.step;have:=h.steps;have:=h.time;simp only;omega
section
variable {ow:Nat->Nat} {w wr:World} {g tw ta:Nat} {gs:List Nat} {nv bv:Value} {F:FleetD}
theorem FlV.QS(f:cV F)(i:Nat)(n:NodeD)(b:F.n[i]?=some n)(a:F.on.getD i false=true)(G:Int)(j:0<=G/\G<=35184372088832)(h:(n.tick (F.w.now i) (F.w.fine i G)).2.length<=1000000){v:Value}(d:FlV ow w g tw ta gs nv bv (F.setN i (n.tick (F.w.now i) (F.w.fine i G)).1) (n.tick (F.w.now i) (F.w.fine i G)).2 v wr):Calls prog 66 #[ptr g,i,v,G] wr fun e c=>e=.returned (.tuple #[])/\FlO ow w g tw ta gs nv bv (F.lY i G) c:=by
 have e:F.lY i G=(F.setN i (n.tick (F.w.now i) (F.w.fine i G)).1).send i (n.tick (F.w.now i) (F.w.fine i G)).2 G:=by unfold FleetD.lY;rw[b];simp only[a,if_true]
 rw[e];exact d.OT (Ii f i _) i (by show i<(F.n.set i _).length;rw[List.length_set];exact(List.getElem?_eq_some_iff.1 b).1) h G j
end
end Go.Proofs.YtechbdnhalmobaaGreatDoor
