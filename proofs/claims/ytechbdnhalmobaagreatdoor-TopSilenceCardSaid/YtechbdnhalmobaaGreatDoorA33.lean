/- Walks. -/
import Derived.Test.YtechbdnhalmobaaGreatDoorSe
namespace Go.Proofs.YtechbdnhalmobaaGreatDoor
set_option maxRecDepth 100000
set_option maxHeartbeats 16000000
set_option linter.unusedSimpArgs false
set_option linter.unusedVariables false
open Go.Proofs.Tryz
open Go.RowKit Go.Maps
theorem Sg{ow:Nat->Nat}{w:World}{g tw ta:Nat}{gs:List Nat}{nv bv:Value}{F:FleetD}(H0:FlO ow w g tw ta gs nv bv F w)(h:cV F)(ht:F.w.time<750000)(HT:∀i n,F.n[i]?=some n->F.on.getD i false=true->QH n (n.tick ((F.w.tick.1.step.1).now i) ((F.w.tick.1.step.1).fine i F.w.tick.1.step.2)).1 ((F.w.tick.1.step.1).now i) ((F.w.tick.1.step.1).fine i F.w.tick.1.step.2) (n.tick ((F.w.tick.1.step.1).now i) ((F.w.tick.1.step.1).fine i F.w.tick.1.step.2)).2)(HL:∀(i:Nat) (n:NodeD),F.n[i]?=some n->(n.tick ((F.w.tick.1.step.1).now i) ((F.w.tick.1.step.1).fine i F.w.tick.1.step.2)).2.length<=1000000):Calls prog 30 #[ptr g] w fun e y=>e=.returned (.int .i64 0)/\FlO ow w g tw ta gs nv bv F.tick.1 y:=by
 have EV:Hid (F.tick.1=tickJ {F with w:=F.w.tick.1.step.1} F.w.tick.1.step.2 F.n.length):=by
  show _=_;have X:F.w.tick.2=true:=by unfold fU.tick;rw[if_neg (by omega)]
  unfold FleetD.tick;rw[X];rfl
 have x:cV {F with w:=F.w.tick.1}:=⟨In h.t ht,by show F.w.tick.1.p.length=_;rw[<-h.p];unfold fU.tick;split<;>rfl,h.a,h.d,h.lost,h.lo⟩;have M:cV {F with w:=F.w.tick.1.step.1}:=⟨vv x.t,x.p,h.a,h.d,h.lost,h.lo⟩;have hG:=Io x.t;obtain⟨c,E⟩:∃T,F.w.tick.1.step.1=T:=⟨_,rfl⟩;obtain⟨G,D⟩:∃z,F.w.tick.1.step.2=z:=⟨_,rfl⟩;have b5:Hid (Calls prog 64 #[ptr tw] w fun e y=>e=.returned (.bool true)/\Hid (FlO ow w g tw ta gs nv bv {F with w:=F.w.tick.1} y)):=H0.QN h ht
 have b4:Hid (∀f,FlO ow w g tw ta gs nv bv {F with w:=F.w.tick.1} f->Calls prog 65 #[ptr tw] f fun e y=>e=.returned (.int .i64 G)/\Hid (FlO ow w g tw ta gs nv bv {F with w:=c} y)):=fun f h1=>by
  have:=h1.step_c x;simp only[E,D] at this;exact this
 rw[E,D] at EV;simp only[E,D] at HT HL;rw[D] at hG;rw[E] at M;have b6:=Lh M;have b3:=Lh HT;have b2:=Lh HL;have a3:=Lh h.lo;obtain⟨c0,I,-⟩:=id H0;obtain⟨an,cn,rfl⟩:=kh I.rn;obtain⟨ab,Z,rfl⟩:=kh I.rb;have a9:=I.ln;have c6:F.n.length<=64:=by rw[<-h.p];exact h.t.len
 obtain⟨V,R,s,l,q,U,S⟩:=H0.cells;have HG:=Lh hG;have m:=Lh a9;have c7:gs.length<=64:=by omega
 clear H0 h x M HT HL E D I hG a9;go_enter func30,ntmps30;go_wp2_with fail;refine b5.out.mono ?_;rintro e f ⟨rfl,H1⟩;clear V R s l q U S;obtain⟨V,R,s,l,q,U,S⟩:=H1.out.cells;go_wp2_with fail;refine(b4.out _ H1.out).mono ?_;rintro e w2 ⟨rfl,H2⟩;clear V R s l q U S;obtain⟨V,R,s,l,q,U,S⟩:=H2.out.cells;go_wp2_with fail;clear V R s l q U S;go_loopw [22] (fun P wr=>∃k:Nat,k<=gs.length/\P=.int .i64 k/\Hid (FlO ow w g tw ta gs (.slice an gs.length cn) (.slice ab F.on.length Z) (tickJ {F with w:=c} G k) wr)) (fun P _=>gs.length-(intOf P).toNat)
 case atStart=>exact⟨0,by omega,rfl,H2⟩
 case round=>
  obtain⟨k,hk,rfl,K⟩:=hrel;by_cases c5:k<gs.length
  ·have k1:(k:Int)<(gs.length:Int):=by omega
   have k2:(0:Int)<=(k:Int):=by omega
   obtain⟨s1,s2,s3,s4,s5⟩:=A7 {F with w:=c} G k;obtain⟨n,Y⟩:∃n,F.n[k]?=some n:=⟨_,List.getElem?_eq_getElem (by have:=m.out;omega)⟩;obtain⟨b,J⟩:∃b,F.on[k]?=some b:=⟨_,List.getElem?_eq_getElem (by have:=m.out;have:=a3.out;omega)⟩;have C:(tickJ {F with w:=c} G k).n[k]?=some n:=(s5 k (Nat.le_refl _)).trans Y;have A:(tickJ {F with w:=c} G k).on[k]?=some b:=by rw[s1];exact J
   obtain⟨nb,c2,X,d2,b7⟩:=K.out.node (j:=k) (by rw[s4];show k<F.n.length;have:=m.out;omega);obtain⟨ob,b9,e2,c4,c3⟩:=K.out.on A;rw[s1] at e2;injection X with X _ e1';subst X;subst e1'
   injection e2 with e2 _ e2';subst e2;subst e2'
   obtain⟨V,R,s,l,q,U,S⟩:=K.out.cells;have kb:(k:Int)<(F.on.length:Int):=by have:=m.out;have:=a3.out;omega
   have EJ:=Lh (zU {F with w:=c} G k);cases b with
   | false=>
    have ES:Hid ((tickJ {F with w:=c} G k).lY k G=tickJ {F with w:=c} G k):=by
     show _=_;unfold FleetD.lY;rw[C,List.getD_eq_getElem?_getD,A];rfl
    clear s1 s2 s3 s4 s5 Y J C A;go_wp2_with fail;go_roundw
    case rel=>
     refine⟨k+1,by omega,by go_num,?_⟩;show FlO _ _ _ _ _ _ _ _ _ _;rw[EJ.out,ES.out];exact K.out
    case measure=>exact(by first|(simp[intOf];done)|(simp[intOf];omega))
   | true=>
    have Q:(tickJ {F with w:=c} G k).on.getD k false=true:=by rw[List.getD_eq_getElem?_getD,A];rfl
    have H:=Kk b6.out G k;have u:k<(tickJ {F with w:=c} G k).n.length:=by rw[s4];show k<F.n.length;have:=m.out;omega
    have hw:(tickJ {F with w:=c} G k).w=c:=s2
    have HN:zX wr 68 #[ptr tw,k] (.int .i64 (c.now k)):=fun f J=>by
     have:=(K.out.below J).Tf H k u;rw[hw] at this;exact this
    have HF:zX wr 69 #[ptr tw,k,G] (.int .i64 (c.fine k G)):=fun f J=>by
     have:=(K.out.below J).J4 H k u G (by have:=HG.out;omega);rw[hw] at this;exact this
    have L:=b3.out k n Y (by rw[<-s1];exact Q);have N:=b2.out k n Y;obtain⟨⟨n2,o⟩,ho⟩:∃r,n.tick (c.now k) (c.fine k G)=r:=⟨_,rfl⟩;rw[ho] at L N;have B:Hid (∀f,zB wr f->Calls prog 67 #[ptr (gs.getD k 0),.int .i64 (c.now k),.int .i64 (c.fine k G)] f fun e y=>∃v,e=.returned v/\Hid (FlV ow w g tw ta gs (.slice (some ⟨nb,0,none⟩) gs.length cn) (.slice (some ⟨ob,0,none⟩) F.on.length Z) ((tickJ {F with w:=c} G k).setN k n2) o v y)):=fun f J=>(K.out.below J).Nj k n n2 _ _ o C L
    have O:Hid (∀v f,FlV ow w g tw ta gs (.slice (some ⟨nb,0,none⟩) gs.length cn) (.slice (some ⟨ob,0,none⟩) F.on.length Z) ((tickJ {F with w:=c} G k).setN k n2) o v f->Calls prog 66 #[ptr g,k,v,G] f fun e y=>e=.returned (.tuple #[])/\Hid (FlO ow w g tw ta gs (.slice (some ⟨nb,0,none⟩) gs.length cn) (.slice (some ⟨ob,0,none⟩) F.on.length Z) ((tickJ {F with w:=c} G k).lY k G) y)):=fun v f hv=>by
     have h1:=FlV.QS (ow:=ow) (w:=w) (wr:=f) (g:=g) (tw:=tw) (ta:=ta) (gs:=gs) (nv:=.slice (some ⟨nb,0,none⟩) gs.length cn) (bv:=.slice (some ⟨ob,0,none⟩) F.on.length Z) H k n C Q G HG.out;rw[hw,ho] at h1;exact h1 N hv
    obtain⟨nw,a4⟩:∃z,c.now k=z:=⟨_,rfl⟩;obtain⟨fn,a7⟩:∃z,c.fine k G=z:=⟨_,rfl⟩;obtain⟨gk,a5⟩:∃z,gs.getD k 0=z:=⟨_,rfl⟩;rw[a4] at HN B;rw[a7] at HF B;rw[a5] at B b7;obtain⟨FK,a8⟩:∃z,(tickJ {F with w:=c} G k).setN k n2=z:=⟨_,rfl⟩;obtain⟨FL,a2⟩:∃z,(tickJ {F with w:=c} G k).lY k G=z:=⟨_,rfl⟩;rw[a8] at B O;rw[a2] at O EJ;clear s1 s2 s3 s4 s5 Y J C A L N ho hw u Q H a4 a7 a5 a8 a2;go_wp2_with fail
    go_region_held3 (fun y=>y.cell? ⟨g,0,none⟩=some (ptr tw)) (go_simp)
     (first
     | (go_at_call 68;refine(HN.out _ ad).mono ?_;rintro e w3 ⟨rfl,a6⟩;have a1:=a6.size;(try simp at a1);have b0:=bq a6 (g))
     | (go_at_call 69;refine(HF.out _ ad).mono ?_;rintro e w4 ⟨rfl,W⟩;have a0:=W.size;(try simp at a0);have b1:=bq W (g))
     | (go_at_call 67;refine(B.out _ ad).mono ?_;rintro e w5 ⟨v,rfl,hv⟩;obtain⟨v0,v1,c1,d1,b8,vf,vy⟩:=hv.out.fl.cells)
     | (go_at_call 66;refine(O.out _ _ hv.out).mono ?_;rintro e w6 ⟨rfl,hq⟩;obtain⟨p0,p1,d0,c8,c9,pf,py⟩:=hq.out.cells))
    all_goals go_wp2_with fail
    all_goals go_roundw
    all_goals first
     | exact(by first|(simp[intOf];done)|(simp[intOf];omega))
     | ((repeat apply Exists.intro);refine⟨⟨k+1,by omega,by go_num,?_⟩,rfl⟩;show FlO _ _ _ _ _ _ _ _ _ _;rw[EJ.out];exact hq.out)
     | (refine⟨k+1,by omega,by go_num,?_⟩;show FlO _ _ _ _ _ _ _ _ _ _;rw[EJ.out];exact hq.out)
  ·have u:k=gs.length:=by omega
   subst u;have k1:¬((gs.length:Int)<(gs.length:Int)):=by omega
   go_wp2_with fail;go_ret;rw[EV.out,<-m.out];exact⟨rfl,K.out⟩
def HalfD.ok(h:HalfD):Prop:=(0<=h.fr/\h.fr<=70368744177664)/\0<=h.til/\h.til<=70368744177664
def cZ.ok(s:cZ):Prop:=s.ask.ok/\s.tell.ok
theorem KV:HalfD.zero.ok:=by unfold HalfD.ok HalfD.zero;decide
theorem Jw(t:Int):ot t=true↔0<=t/\t<=70368744177664:=by unfold ot;simp
theorem Lf(a m s:Int):(begunF a m s).ok:=by
 unfold begunF;split
 ·rename_i h;have:=(Jw a).1 h;exact⟨this,by show(0:Int)<=0/\(0:Int)<=70368744177664;decide⟩
 ·exact KV
theorem HalfD.ok.answer{h:HalfD}(k:h.ok)(a:Int):(h.answer a).1.ok:=by
 unfold HalfD.answer;split
 ·exact k
 ·rename_i b;have:ot a=true:=by cases q:ot a;exact absurd (.inr (.inl q)) b;rfl
  exact⟨k.1,(Jw a).1 this⟩
theorem cZ.ok.poll{s:cZ}(h:s.ok)(a m:Int):(s.poll a m).ok:=⟨Lf _ _ _,h.2⟩
theorem cZ.ok.gotPoll{s:cZ}(h:s.ok)(a m:Int):(s.gotPoll a m).ok:=⟨h.1,Lf _ _ _⟩
theorem cZ.ok.gotResp{s:cZ}(h:s.ok)(a m:Int):(s.gotResp a m).1.ok:=by
 unfold cZ.gotResp;split
 ·exact⟨h.1.answer a,h.2⟩
 ·exact h
theorem cZ.ok.final{s:cZ}(h:s.ok)(a:Int):(s.final a).1.ok:=by
 unfold cZ.final;split
 ·exact⟨KV,h.2⟩
 ·exact h
theorem cZ.ok.resp{s:cZ}(h:s.ok)(a m:Int):(s.resp a m).1.ok:=by
 unfold cZ.resp;split
 ·exact⟨h.1,h.2.answer a⟩
 ·exact h
theorem cZ.ok.gotFinal{s:cZ}(h:s.ok)(a b c m:Int):(s.gotFinal a b c m).1.ok:=by
 unfold cZ.gotFinal;split
 ·exact⟨h.1,KV⟩
 ·exact h
def NodeD.so(n:NodeD):Prop:=∀k,(n.s k).ok
theorem NodeD.so.upd{n:NodeD}(h:n.so)(k:Nat){s:cZ}(a:s.ok):(n.upd k s).so:=by
 intro j;show(if j=k then s else n.s j).ok;split
 ·exact a
 ·exact h j
theorem wt(n:NodeD)(b a:Int)(f:FrD):(n.send b a f).1.s=n.s/\(n.send b a f).1.t=n.t/\(n.send b a f).1.c=n.c/\(n.send b a f).1.fv=n.fv/\(n.send b a f).1.fe=n.fe:=by
 unfold NodeD.send;split<;>exact⟨rfl,rfl,rfl,rfl,rfl⟩
theorem Jk(n:NodeD)(b a:Int):(n.tell b a).1.s=n.s/\(n.tell b a).1.t=n.t/\(n.tell b a).1.c=n.c/\(n.tell b a).1.fv=n.fv/\(n.tell b a).1.fe=n.fe:=by
 unfold NodeD.tell;simp only;split
 ·exact⟨rfl,rfl,rfl,rfl,rfl⟩
 ·split
  ·exact wt _ _ _ _
  ·exact⟨rfl,rfl,rfl,rfl,rfl⟩
theorem Nf(n:NodeD)(b a:Int):(n.poll b a).1.t=n.t/\(n.poll b a).1.c=n.c/\(n.poll b a).1.fv=n.fv/\(n.poll b a).1.fe=n.fe:=by
 unfold NodeD.poll;simp only;split
 ·exact⟨rfl,rfl,rfl,rfl⟩
 ·split
  ·exact(wt _ _ _ _).2
  ·exact(wt _ _ _ _).2
theorem NodeD.so.send{n:NodeD}(h:n.so)(a fine:Int)(f:FrD):(n.send a fine f).1.so:=by
 intro k;rw[(wt n a fine f).1];exact h k
theorem NodeD.so.asked{n:NodeD}(h:n.so)(k:Int):NodeD.so {n with asked:=k}:=h
theorem NodeD.so.poll{n:NodeD}(h:n.so)(a fine:Int):(n.poll a fine).1.so:=by
 unfold NodeD.poll;simp only;split
 ·exact h
 ·have b:=(h.asked (nextF (n.t.all.map (·.node)) n.asked).1).send a fine {fr0 2 with dst:=(nextF (n.t.all.map (·.node)) n.asked).1};split
  ·exact b.upd _ ((b _).poll _ _)
  ·exact b
theorem NodeD.so.one{n:NodeD}(h:n.so)(a:Int):(node1 n a).so:=h
theorem NodeD.so.tell{n:NodeD}(h:n.so)(a fine:Int):(n.tell a fine).1.so:=by
 intro k;rw[(Jk n a fine).1];exact h k
theorem tick_off{n:NodeD}{a fine:Int}(h:cA a=false∨(n.tm.due a).2=false):n.tick a fine=(n,[])∨n.tick a fine=(node1 n a,[]):=by
 unfold NodeD.tick;by_cases b:cA a=false
 ·rw[if_pos b];exact .inl rfl
 ·rw[if_neg b];have c:(n.tm.due a).2=false:=by rcases h with h|h;exact absurd h b;exact h
  simp only[c,if_true];exact .inr rfl
theorem NodeD.so.tick{n:NodeD}(h:n.so)(c fine:Int):(n.tick c fine).1.so:=by
 by_cases f:cA c=true/\(n.tm.due c).2=true
 ·rw[D6 n c fine f.1 f.2 _ rfl];exact(((h.one c).send _ _ _).tell _ _).poll _ _
 · have d : cA c = false ∨ (n.tm.due c).2 = false := by
     cases a:cA c
     ·exact .inl rfl
     ·exact .inr (by cases b:(n.tm.due c).2;rfl;exact absurd ⟨a,b⟩ f)
   rcases tick_off (fine:=fine) d with e|e<;>rw[e]<;>exact h
theorem OM{n m:NodeD}(h:n.so)(e:m.s=n.s):m.so:=by intro k;rw [e];exact h k
theorem IE(n:NodeD)(k:Int)(e:El)(w a:Int):(n.put k e w a).s=n.s/\(n.put k e w a).c=n.c:=by unfold NodeD.put;split<;>exact ⟨rfl,rfl⟩
theorem D5(n:NodeD)(f:FrD)(a:Int):(n.tracked f a).s=n.s/\(n.tracked f a).c=n.c:=by
 unfold NodeD.tracked;split
 ·split<;>exact⟨rfl,rfl⟩
 ·split
  ·exact IE _ _ _ _ _
  ·exact⟨rfl,rfl⟩
theorem Ay(n:NodeD)(k:Int)(t:Oh)(b a:Int):(n.measured k t b a).s=n.s/\(n.measured k t b a).c=n.c/\(n.measured k t b a).t=n.t:=by
 unfold NodeD.measured;simp only;split
 ·exact⟨rfl,rfl,rfl⟩
 ·split<;>exact⟨rfl,rfl,rfl⟩
theorem NodeD.so.ranging{n:NodeD}(h:n.so)(f:FrD)(c d a:Int):(n.ranging f c d a).1.so:=by
 unfold NodeD.ranging;simp only;split
 ·have b:=(h.upd f.src.toNat ((h f.src.toNat).gotPoll c f.stamp)).send d a {fr0 3 with dst:=f.src,t1:=tf f};split
  ·exact b.upd _ ((b _).resp _ _)
  ·exact b
 ·split
  ·have b:=h.upd f.src.toNat ((h f.src.toNat).gotResp c f.t1);split
   ·exact b
   ·have e:=b.upd f.src.toNat ((b f.src.toNat).final a);split
    ·exact e.send _ _ _
    ·exact e
  ·split
   ·have b:=h.upd f.src.toNat ((h f.src.toNat).gotFinal c f.t1 f.t2 f.when);split
    ·exact OM b (Ay _ _ _ _ _).1
    ·exact b
   ·exact h
theorem NodeD.so.take{n:NodeD}(h:n.so)(f:FrD)(c b a:Int):(n.take f c b a).1.so:=by
 unfold NodeD.take;split
 ·exact OM h (IE _ _ _ _ _).1
 ·split
  ·exact OM h (D5 _ _ _).1
  ·split
   ·split
    ·exact h.ranging _ _ _ _
    ·exact h
   ·split
    ·exact h
    ·exact h
theorem NodeD.so.tab{n:NodeD}(h:n.so)(t:cB):NodeD.so {n with t:=t}:=h
theorem NodeD.so.hear{n:NodeD}(h:n.so)(l:List Nat)(a now fine:Int):(n.hear l a now fine).1.so:=by
 unfold NodeD.hear;split
 ·exact h
 ·split
  ·exact h
  ·simp only;split
   ·exact h
   ·split
    ·exact h
    ·split
     ·exact h
     ·exact(h.tab (n.t.hear (decE l).1.src (decE l).1.boot (decE l).1.seq now).1).take _ _ _ _
theorem Kx(n:NodeD)(f:FrD)(c b a:Int):(n.ranging f c b a).2.length<=1:=by
 unfold NodeD.ranging;simp only
 repeat' split
 all_goals first|exact Ci _ _ _ _|simp
theorem OF(n:NodeD)(f:FrD)(c b a:Int):(n.take f c b a).2.length<=1:=by
 unfold NodeD.take;split
 ·simp
 ·split
  ·simp
  ·split
   ·split
    ·exact Kx _ _ _ _ _
    ·simp
   ·split<;>simp
theorem PG(n:NodeD)(l:List Nat)(c b a:Int):(n.hear l c b a).2.1.length<=1:=by
 unfold NodeD.hear;split
 ·simp
 ·split
  ·simp
  ·simp only;split
   ·simp
   ·split
    ·simp
    ·split
     ·simp
     ·exact OF {n with t:=(n.t.hear (decE l).1.src (decE l).1.boot (decE l).1.seq b).1} (decE l).1 c b a
theorem Lt(n:NodeD)(d fine:Int):(n.tick d fine).2.length<=3:=by
 by_cases g:cA d=true/\(n.tm.due d).2=true
 ·rw[D6 n d fine g.1 g.2 _ rfl];simp only[List.length_append];have a:=Ci (node1 n d) d fine (firstF n);have b:=Km ((node1 n d).send d fine (firstF n)).1 d fine;have c:=Pa (((node1 n d).send d fine (firstF n)).1.tell d fine).1 d fine;omega
 · have f : cA d = false ∨ (n.tm.due d).2 = false := by
     cases a:cA d
     ·exact .inl rfl
     ·exact .inr (by cases b:(n.tm.due d).2;rfl;exact absurd ⟨a,b⟩ g)
   rcases tick_off (fine:=fine) f with e|e<;>rw[e]<;>exact Nat.zero_le _
theorem Nw{F:FleetD}{N i j:Nat}{b:List Nat}{G:Int}(h:∀q∈F.a,q.til<N)(f:j<N):∀q∈(F.lm i j b G).a,q.til<N:=by
 unfold FleetD.lm;split
 ·exact h
 ·intro q e;have c:q∈(airPut F.a ⟨j,b,F.w.fine j (G+F.w.flight i j),G+F.w.flight i j,false⟩).1:=e;unfold airPut at c;split at c
  ·exact h q c
  ·rcases List.mem_append.1 c with d|d
   ·exact h q d
   ·rw[List.mem_singleton.1 d];exact f
theorem OS(N i:Nat)(G:Int):∀(l:List ky) (F:FleetD),F.n.length=N->(∀q∈F.a,q.til<N)->∀q∈(F.send i l G).a,q.til<N:=by
 have g:∀(b:List Nat) (js:List Nat) (F:FleetD),F.n.length=N->(∀q∈F.a,q.til<N)->(∀j∈js,j<N)->(js.foldl (fun f j=>f.lm i j b G) F).n.length=N/\∀q∈(js.foldl (fun f j=>f.lm i j b G) F).a,q.til<N:=by
  intro b js;induction js with
  | nil=>intro F c d _;exact⟨c,d⟩
  | cons j t e=>
   intro F c d k;exact e (F.lm i j b G) (by rw[(DA F i j b G).1];exact c) (Nw d (k j (by simp))) (fun q p=>k q (by simp[p]))
 intro l;induction l with
 | nil=>intro F _ h;exact h
 | cons o r e=>
  intro F c d;obtain⟨u,s⟩:=g (if pl o.1 then nt o.1 else []) (List.range F.n.length) F c d (fun j m=>by rw[<-c];exact List.mem_range.1 m);exact e _ u s
structure cW (F:FleetD):Prop where
 ok:cV F
 n:∀n∈F.n,bL n/\n.so
 m:∀q∈F.a,q.til<F.n.length
theorem cW.at{F:FleetD}(h:cW F){i:Nat}{n:NodeD}(a:F.n[i]?=some n):bL n/\n.so:=h.n n (List.mem_of_getElem? a)
theorem cW.setN{F:FleetD}(h:cW F)(i:Nat){m:NodeD}(d:bL m/\m.so):cW (F.setN i m):=by
 refine⟨Ii h.ok i m,fun n a=>?_,fun q b=>?_⟩
 ·rcases List.mem_or_eq_of_mem_set a with c|rfl
  ·exact h.n n c
  ·exact d
 ·show q.til<(F.n.set i m).length;rw[List.length_set];exact h.m q b
theorem cW.send{F:FleetD}(h:cW F)(i:Nat)(l:List ky)(G:Int):cW (F.send i l G):=by
 refine⟨IB h.ok i G l,?_,?_⟩
 ·rw[show(F.send i l G).n=F.n from(zM F i G l).1];exact h.n
 ·rw[show(F.send i l G).n=F.n from(zM F i G l).1];exact OS F.n.length i G l F rfl h.m
theorem cW.lY{F:FleetD}(h:cW F)(i:Nat)(G:Int):cW (F.lY i G):=by
 unfold FleetD.lY;split
 ·exact h
 ·rename_i n a;split
  ·have k:=h.at a;exact(h.setN i ⟨Hy k.1 _ _,k.2.tick _ _⟩).send _ _ _
  ·exact h
theorem cW.tickJ{F:FleetD}(h:cW F)(G:Int):∀k,cW (tickJ F G k)
 | 0=>h
 | k+1=>by rw[zU];exact(cW.tickJ h G k).lY _ _
theorem cW.JJ{F:FleetD}(h:cW F)(c:F.w.time<750000):cW {F with w:=F.w.tick.1.step.1}:=by
 have b:cV {F with w:=F.w.tick.1}:=⟨In h.ok.t c,by show F.w.tick.1.p.length=_;rw[<-h.ok.p];unfold fU.tick;split<;>rfl,h.ok.a,h.ok.d,h.ok.lost,h.ok.lo⟩;exact⟨⟨vv b.t,b.p,h.ok.a,h.ok.d,h.ok.lost,h.ok.lo⟩,h.n,h.m⟩
theorem cW.tick{F:FleetD}(h:cW F):cW F.tick.1:=by
 unfold FleetD.tick;split
 ·exact h
 ·rename_i b
  have c:F.w.time<750000:=by
   rcases Int.lt_or_le F.w.time 750000 with a|a
   ·exact a
   ·exfalso;apply b;unfold fU.tick;rw[if_pos (by omega)]
  exact(h.JJ c).tickJ _ _
theorem cW.hear{F:FleetD}(h:cW F)(i:Nat)(b:List Nat)(a G:Int):cW (F.hear i b a G):=by
 unfold FleetD.hear;split
 ·exact h
 ·rename_i n c;have k:=h.at c;exact(h.setN i ⟨k.1.hear _ _ _ _,k.2.hear _ _ _ _⟩).send _ _ _
theorem cW.step{F:FleetD}(h:cW F):cW {F with w:=F.w.step.1}:=⟨⟨vv h.ok.t,h.ok.p,h.ok.a,h.ok.d,h.ok.lost,h.ok.lo⟩,h.n,h.m⟩
theorem cW.took{F:FleetD}(h:cW F)(i:Nat):cW {F with w:=F.w.step.1,a:=F.a.eraseIdx i}:=
 ⟨⟨vv h.ok.t,h.ok.p,Nat.le_trans (List.length_eraseIdx_le ..) h.ok.a,fun p b=>h.ok.d p (List.mem_of_mem_eraseIdx b),h.ok.lost,h.ok.lo⟩,h.n,fun q c=>h.m q (List.mem_of_mem_eraseIdx c)⟩
theorem cW.deliver{F:FleetD}(h:cW F)(i:Int):cW (F.deliver i).1:=by
 unfold FleetD.deliver;split
 ·exact h
 ·split
  ·exact h
  ·simp only;split
   ·exact h.step
   ·split
    ·exact(h.took _).hear _ _ _ _
    ·exact h.took _
theorem LL(c:Cfg)(b:c.may=true)(i:Nat)(f:i<64)(e:El):bL (NodeD.new c i 0 e):=by
 have d:bL ⟨c,i,0,max 2 c.cap,false,.zero,.new c.table,fun _=>.new,.new c.rate,.new c.every,0,-1,-1,0⟩:=
  ⟨b,⟨by show(0:Int)<=(i:Int);omega,by show(i:Int)<64;omega⟩,(by show(0:Int)<=0/\(0:Int)<=65535;decide),(by show(0:Int)<=0/\(0:Int)<=65535;decide),(by show(0:Int)<=0/\(0:Int)<=1000000;decide),
   ⟨by show 1<=max 1 (min c.table 64)/\max 1 (min c.table 64)<=64;omega,fun p a=>(by cases a),fun p a=>(by cases a),List.Pairwise.nil,List.Pairwise.nil⟩,
   (by show 0<=max 0 (min c.rate 1000)/\max 0 (min c.rate 1000)<=1000/\0<=max 0 (min c.rate 1000)/\max 0 (min c.rate 1000)<=1000;omega),
   (by show 1<=max 1 (min c.every 1000000)/\max 1 (min c.every 1000000)<=1000000;omega),fun h=>(by cases h)⟩
 exact d.filt (JM (v:=false) (e:=.zero) (k:=(setS (max 2 c.cap) false .zero e).2) (fun h=>by cases h) rfl)
theorem Th(c:Cfg)(b:c.may=true):∀n∈(FleetD.new c).n,bL n:=by
 intro n e;have a:n∈(List.range c.nodes.toNat).map (fun (i:Nat)=>NodeD.new c i 0 (if i<3 then (ballE (1000*((i:Int)%8)) (1000*((i:Int)/8)) 10).1 else .zero)):=e;obtain⟨i,f,rfl⟩:=List.mem_map.1 a;have g:=Af c b;have d:=List.mem_range.1 f;exact LL c b i (by omega) _
theorem TG(c:Cfg)(i:Nat)(e:El):(NodeD.new c i 0 e).so:=fun _=>⟨KV,KV⟩
theorem IX(c:Cfg)(a:c.may=true):cW (.new c):=by
 have k:=Af c a
 have e:(FleetD.new c).w.p.length=c.nodes.toNat:=by
  show((List.range c.nodes.toNat).map _).length=_;rw[List.length_map,List.length_range]
 have d:(FleetD.new c).n.length=c.nodes.toNat:=by
  show((List.range c.nodes.toNat).map _).length=_;rw[List.length_map,List.length_range]
 refine⟨⟨⟨a,e,?_,(by show(0:Int)<=0/\(0:Int)<=750000;decide),(by show(0:Int)<=0/\(0:Int)<=16777215;decide)⟩,e.trans d.symm,Nat.zero_le _,(fun m j=>by cases j),(by show(0:Int)<=0/\(0:Int)<=1000000;decide),?_⟩,fun n h=>⟨Th c a n h,?_⟩,fun q f=>by cases f⟩
 ·intro p h;have b:p∈(List.range c.nodes.toNat).map (fun (i:Nat)=>(1000*((i:Int)%8),1000*((i:Int)/8))):=h;obtain⟨i,g,rfl⟩:=List.mem_map.1 b;have:=List.mem_range.1 g;simp only;omega
 ·rw[d];show(List.replicate c.nodes.toNat true).length=_;rw[List.length_replicate]
 ·have b:n∈(List.range c.nodes.toNat).map (fun (i:Nat)=>NodeD.new c i 0 (if i<3 then (ballE (1000*((i:Int)%8)) (1000*((i:Int)/8)) 10).1 else .zero)):=h;obtain⟨i,-,rfl⟩:=List.mem_map.1 b;exact TG _ _ _
def Gc.begins(N:Nat):Gc:=⟨N,fun k=>if k<8 then (1000*((k:Int)%8),1000*((k:Int)/8)) else (0,0),10,fun _ _=>0,fun _ _=>0,fun _=>0⟩
theorem TY(c:Cfg)(i:Nat)(e:El)(p q:Int)(a:e.may=true->e.has p q=true):FH (NodeD.new c i 0 e).fv (NodeD.new c i 0 e).fe p q:=by
 show FH (setS (max 2 c.cap) false .zero e).1.1 (setS (max 2 c.cap) false .zero e).1.2 p q;cases hm:e.may with
 | true=>exact LV (v:=false) (e:=.zero) (k:=(setS (max 2 c.cap) false .zero e).2) (Ik _ _ _) (a hm) rfl
 | false=>
  have:setS (max 2 c.cap) false .zero e=((false,.zero),1):=by unfold setS;rw[if_neg (by rw[hm];decide)]
  rw[this];exact Ik _ _ _
theorem TZ(i:Nat)(b:i<8)(e:El)(a:e=if i<3 then (ballE (1000*((i:Int)%8)) (1000*((i:Int)/8)) 10).1 else .zero):e.may=true->e.has (1000*((i:Int)%8)) (1000*((i:Int)/8))=true:=by
 subst a;have:i=0∨i=1∨i=2∨i=3∨i=4∨i=5∨i=6∨i=7:=by omega
 rcases this with rfl|rfl|rfl|rfl|rfl|rfl|rfl|rfl<;>decide +kernel
theorem Ui(c:Cfg)(N:Nat)(o:N<=8)(v:c.nodes=N)(r:c.drift=10)(w:c.rate=8)(g:∀n∈(FleetD.new c).n,bL n):FS (.begins N) (FleetD.new c) (fun _=>8):=by
 have e:c.nodes.toNat=N:=by omega
 refine⟨⟨o,(by show(0:Int)<=10/\(10:Int)<=1000;decide),fun k=>?_⟩,?_,?_,?_,r,?_,fun m l=>by cases l⟩
 ·show(-1000000<=(if k<8 then (1000*((k:Int)%8),1000*((k:Int)/8)) else (0,0)).1/\(if k<8 then (1000*((k:Int)%8),1000*((k:Int)/8)) else (0,0)).1<=1000000)/\_;show _/\(-1000000<=(if k<8 then (1000*((k:Int)%8),1000*((k:Int)/8)) else (0,0)).2/\(if k<8 then (1000*((k:Int)%8),1000*((k:Int)/8)) else (0,0)).2<=1000000);split
  ·simp only;omega
  ·decide
 ·show((List.range c.nodes.toNat).map _).length=N;rw[List.length_map,List.length_range,e]
 ·show((List.range c.nodes.toNat).map _).length=N;rw[List.length_map,List.length_range,e]
 ·intro k s;show((List.range c.nodes.toNat).map _)[k]?=some _;rw[List.getElem?_map,List.getElem?_range (by rw[e];exact s)];show some _=some (if k<8 then _ else _);rw[if_pos (Nat.lt_of_lt_of_le s o)]
 ·intro i n p;have l:=List.mem_of_getElem? p;refine⟨?_,g n l⟩;have d:((List.range c.nodes.toNat).map (fun (i:Nat)=>NodeD.new c i 0 (if i<3 then (ballE (1000*((i:Int)%8)) (1000*((i:Int)/8)) 10).1 else .zero)))[i]?=some n:=p;rw[List.getElem?_map] at d;obtain⟨j,t,rfl⟩:=Option.map_eq_some_iff.1 d;obtain⟨a,f⟩:=List.getElem?_eq_some_iff.1 t;rw[List.length_range] at a;rw[List.getElem_range] at f;subst f;have b:i<8:=by rw[e] at a;exact Nat.lt_of_lt_of_le a o
  refine⟨rfl,rfl,rfl,Int.le_refl 0,r,?_,?_,?_,?_,fun q u=>(by cases u),fun k h=>(by cases h),fun k h=>(by cases h)⟩
  ·show 0<=max 0 (min c.rate 1000)/\max 0 (min c.rate 1000)<=8;omega
  ·show 0<=max 0 (min c.rate 1000);omega
  ·show 0+max 0 (min c.rate 1000)<=8;omega
  ·show FH _ _ (if ((i:Int)).toNat<8 then (1000*((((i:Int)).toNat:Int)%8),1000*((((i:Int)).toNat:Int)/8)) else (0,0)).1 (if ((i:Int)).toNat<8 then (1000*((((i:Int)).toNat:Int)%8),1000*((((i:Int)).toNat:Int)/8)) else (0,0)).2;rw[Int.toNat_natCast,if_pos b];exact TY c i _ _ _ (TZ i b _ rfl)
theorem Ug{X:Gc}{F:FleetD}{M:Nat->Int}(h:FS X F M){i:Nat}{n:NodeD}(b:F.n[i]?=some n)(c:n.fv=true):∃p,F.w.p[i]?=some p/\n.fe.has p.1 p.2=true:=by
 obtain⟨d,-⟩:=h.nd i n b;obtain⟨a,-⟩:=List.getElem?_eq_some_iff.1 b;exact⟨X.p i,h.pos i (by rw[<-h.len];exact a),d.f c⟩
def flsF(F:FleetD):Nat->FleetD×Int
 | 0=>(F,0)
 | k+1=>(((flsF F k).1.deliver (flsF F k).2).1,if ((flsF F k).1.deliver (flsF F k).2).2=0 then (flsF F k).2 else (flsF F k).2+1)
def O0(F:FleetD):FleetD:=(flsF F.tick.1 (min F.tick.1.a.length 400)).1
def rndF(F:FleetD):Nat->FleetD
 | 0=>F
 | k+1=>O0 (rndF F k)
def tksF(F:FleetD):Nat->FleetD
 | 0=>F
 | k+1=>(tksF F k).tick.1
def oh(now:Int)(t t':cB):Prop:=∀q∈t'.ents,q.2.heard=now∨∃q'∈t.ents,q'.2.heard=q.2.heard
section
variable {now:Int} {a b c:cB}
theorem oh.refl:oh now a a:=fun q h=>.inr ⟨q,h,rfl⟩
theorem oh.trans(h:oh now a b)(k:oh now b c):oh now a c:=fun q i=>by
 rcases k q i with e|⟨g,d,a2⟩
 ·exact .inl e
 ·rcases h g d with e|⟨f,j,b2⟩
  ·exact .inl (a2.symm.trans e)
  ·exact .inr ⟨f,j,b2.trans a2⟩
theorem oh.IH(h:∀q∈b.ents,q∈a.ents):oh now a b:=fun q d=>.inr ⟨q,h q d,rfl⟩
theorem oh.ins{m:List (Int×EntD)}{k:Int}{v:EntD}(g:∀q∈m,q∈a.ents)(e:v.heard=now∨∃q'∈a.ents,q'.2.heard=v.heard)(f:b.ents=Go.Proofs.YtechbdnhalmobaaGreatDoor.ins m k v):oh now a b:=fun q d=>by
 rw[f] at d;rcases mem_ins.1 d with rfl|⟨d,-⟩
 ·exact e
 ·exact .inr ⟨q,g q d,rfl⟩
end
theorem Qw(now:Int)(t:cB)(n boot:Int):oh now t (t.begin n boot).1:=by
 have f:∀e:cB,e.ents=(match lk t.ents n with|some x=>ins t.ents n ⟨n,x.boot,x.heard,false,.zero,0⟩|none=>t.ents)->oh now t e:=by
  intro e h;cases hx:lk t.ents n with
  | none=>rw[hx] at h;exact .IH (fun q d=>by rw[h] at d;exact d)
  | some x=>rw[hx] at h;exact oh.ins (k:=n) (v:=⟨n,x.boot,x.heard,false,.zero,0⟩) (fun q d=>d) (.inr ⟨_,pb hx,rfl⟩) h
 unfold cB.begin;cases hl:lk t.lives n with
 | none=>exact f _ rfl
 | some l=>
  simp only;split
  ·split
   ·exact .refl
   ·exact .refl
  ·split
   ·exact .refl
   ·exact f _ rfl
theorem R8(t:cB)(n boot e now:Int):oh now t (t.hear n boot e now).1:=by
 unfold cB.hear;split
 ·exact .refl
 ·have f:=Qw now t n boot;split
  ·exact f
  ·simp only;split
   ·exact f
   ·refine f.trans ?_;split
    ·rename_i x g;exact oh.ins (k:=n) (v:={x with node:=n,boot:=boot,heard:=now}) (m:=(t.begin n boot).1.ents) (fun q d=>d) (.inl rfl) rfl
    ·simp only;split
     ·exact oh.ins (m:=del (t.begin n boot).1.ents _) (fun q d=>(Ar.1 d).1) (.inl rfl) rfl
     ·exact oh.ins (fun q d=>d) (.inl rfl) rfl
theorem Pz(now:Int)(t:cB)(n:Int):oh now t (t.leave n).1:=by
 unfold cB.leave;cases lk t.lives n with
 | none=>exact .refl
 | some l=>exact .IH (fun q d=>(Ar.1 d).1)
theorem Ru(now:Int)(t:cB)(k:Int)(e:El)(w:Int):oh now t (t.put k e w).1:=by
 unfold cB.put;split
 ·exact .refl
 ·rename_i x f;split
  ·exact .refl
  ·exact oh.ins (k:=k) (v:={x with has:=true,e:=e,when:=w}) (fun q d=>d) (.inr ⟨_,pb f,rfl⟩) rfl
theorem O5(m:Int)(n:NodeD)(k:Int)(e:El)(w now:Int):oh m n.t (n.put k e w now).t:=by
 unfold NodeD.put;split
 ·exact .refl
 ·exact Ru _ _ _ _ _
theorem EZ(n:NodeD)(f:FrD)(e now d:Int):(n.ranging f e now d).1.t=n.t/\(n.ranging f e now d).1.c=n.c:=by
 unfold NodeD.ranging;simp only
 repeat' split
 all_goals first
  | exact⟨(wt _ _ _ _).2.1,(wt _ _ _ _).2.2.1⟩
  | exact⟨(Ay _ _ _ _ _).2.2,(Ay _ _ _ _ _).2.1⟩
  | exact⟨rfl,rfl⟩
theorem QT(m:Int)(n:NodeD)(f:FrD)(e now d:Int):oh m n.t (n.take f e now d).1.t/\(n.take f e now d).1.c=n.c:=by
 unfold NodeD.take;split
 ·exact⟨O5 _ _ _ _ _ _,(IE _ _ _ _ _).2⟩
 ·split
  ·refine⟨?_,(D5 _ _ _).2⟩;unfold NodeD.tracked;split
   ·split
    ·exact .refl
    ·exact .refl
   ·split
    ·exact O5 _ _ _ _ _ _
    ·exact .refl
  ·split
   ·split
    ·rw[(EZ n f e now d).1];exact⟨.refl,(EZ n f e now d).2⟩
    ·exact⟨.refl,rfl⟩
   ·split
    ·exact⟨Pz _ _ _,rfl⟩
    ·exact⟨.refl,rfl⟩
theorem Ph(n:NodeD)(l:List Nat)(e now d:Int):oh now n.t (n.hear l e now d).1.t/\(n.hear l e now d).1.c=n.c:=by
 unfold NodeD.hear;split
 ·exact⟨.refl,rfl⟩
 ·split
  ·exact⟨.refl,rfl⟩
  ·simp only;split
   ·exact⟨.refl,rfl⟩
   ·split
    ·exact⟨.refl,rfl⟩
    ·have g:=R8 n.t (decE l).1.src (decE l).1.boot (decE l).1.seq now;split
     ·exact⟨g,rfl⟩
     ·have f:=QT now {n with t:=(n.t.hear (decE l).1.src (decE l).1.boot (decE l).1.seq now).1} (decE l).1 e now d;exact⟨g.trans f.1,f.2⟩
theorem LH(n:NodeD)(now e:Int):(n.tick now e).1.c=n.c/\(n.tick now e).1.fv=n.fv/\(n.tick now e).1.t=if cA now=true then n.t.tx now n.c.silent else n.t:=by
 unfold NodeD.tick;simp only;cases cA now with
 | false=>exact⟨rfl,rfl,rfl⟩
 | true=>
  rw[if_neg (by decide),if_pos rfl];split
  ·exact⟨rfl,rfl,rfl⟩
  ·obtain⟨g,i,o,-⟩:=Nf (NodeD.tell (NodeD.send {n with b:=⟨n.b.n,n.b.n⟩,t:=n.t.tx now n.c.silent,tm:=(n.tm.due now).1} now e (if n.fv then {fr0 5 with x:=n.fe.x,y:=n.fe.y,a:=n.fe.a,b:=n.fe.b,d:=n.fe.d} else fr0 1)).1 now e).1 now e;obtain⟨-,j,h,m,-⟩:=Jk (NodeD.send {n with b:=⟨n.b.n,n.b.n⟩,t:=n.t.tx now n.c.silent,tm:=(n.tm.due now).1} now e (if n.fv then {fr0 5 with x:=n.fe.x,y:=n.fe.y,a:=n.fe.a,b:=n.fe.b,d:=n.fe.d} else fr0 1)).1 now e;obtain⟨-,k,f,l,-⟩:=wt {n with b:=⟨n.b.n,n.b.n⟩,t:=n.t.tx now n.c.silent,tm:=(n.tm.due now).1} now e (if n.fv then {fr0 5 with x:=n.fe.x,y:=n.fe.y,a:=n.fe.a,b:=n.fe.b,d:=n.fe.d} else fr0 1);exact⟨i.trans (h.trans f),o.trans (m.trans l),g.trans (j.trans k)⟩
theorem JT{T:fU}{i:Nat}(h:i<T.p.length):T.now i=localF (offF i 7 T.c.skew) T.time:=by unfold fU.now;rw [if_pos h]
theorem KI(s a b:Int)(h:a<=b):localF s a<=localF s b:=by unfold localF btw;omega
structure Sil (N:Nat) (K:Nat) (F:FleetD):Prop where
 fs:∃X,FS X F (fun _=>8+8*(K:Int))/\X.N=N
 fn:cW F
 tm:F.w.time=K
 on:F.on=List.replicate N true
 len:F.n.length=N
 sk:F.w.c.skew=1
 nd:∀i n,F.n[i]?=some n->n.c.silent=30/\∀q∈n.t.ents,q.2.heard<=F.w.now i
theorem Sil.lt{N K:Nat}{F:FleetD}(h:Sil N K F):N<=8:=by
 obtain⟨X,d,e⟩:=h.fs;have:=d.ok.n8;omega
theorem Oz{F:FleetD}(h:F.w.time<750000):F.tick=(tickJ {F with w:=F.w.tick.1.step.1} F.w.tick.1.step.2 F.n.length,0):=by
 have d:F.w.tick.2=true:=by unfold fU.tick;rw[if_neg (by omega)]
 unfold FleetD.tick;rw[d];rfl
theorem Ir(F:FleetD)(G:Int)(i:Nat)(n:NodeD)(g:F.n[i]?=some n)(f:F.on.getD i false=true):∀k,i<k->(tickJ F G k).n[i]?=some (n.tick (F.w.now i) (F.w.fine i G)).1
 | 0,h=>by omega
 | k+1,h=>by
  obtain⟨o,l,s,q,m⟩:=A7 F G k
  rw[zU]
  rcases Nat.lt_or_ge i k with j|j
  ·obtain⟨v,t,u,r,p⟩:=Is (tickJ F G k) k G
   rw[p i (by omega)]
   exact Ir F G i n g f k j
  ·have e:i=k:=by omega
   subst e
   have d:=(m i (Nat.le_refl _)).trans g
   unfold FleetD.lY
   rw[d,o,f,l]
   simp only[if_true]
   rw[(zM _ _ _ _).1]
   show((tickJ F G i).n.set i _)[i]? = _
   rw[List.getElem?_set,if_pos rfl,if_pos (List.getElem?_eq_some_iff.1 d).1]
theorem Sil.UV{N K:Nat}{F:FleetD}(h:Sil N K F){i:Nat}(d:i<N):F.on.getD i false=true:=by
 rw[h.on,List.getD_eq_getElem?_getD,List.getElem?_replicate,if_pos d];rfl
theorem Sil.tick{N K:Nat}{F:FleetD}(h:Sil N K F)(U:K<=100):Sil N (K+1) F.tick.1/\F.tick.2=0/\∀i n,F.n[i]?=some n->∃d,F.tick.1.n[i]?=some d/\d.fv=n.fv/\d.t=if cA (F.tick.1.w.now i)=true then n.t.tx (F.tick.1.w.now i) 30 else n.t:=by
 have r:F.w.time<750000:=by have:=h.tm;omega
 have m:=Oz r;obtain⟨X,S,J⟩:=h.fs;obtain⟨I,G,T,D,-⟩:=A7 {F with w:=F.w.tick.1.step.1} F.w.tick.1.step.2 F.n.length;have ew:F.tick.1.w=F.w.tick.1.step.1:=by rw[m];exact G
 have eo:F.tick.1.on=F.on:=by rw[m];exact I
 have z:F.tick.1.n.length=F.n.length:=by rw[m];exact D
 have y:F.w.tick.1.step.1.time=F.w.time+1:=by unfold fU.tick;rw[if_neg (by omega)];rfl
 have ec:F.w.tick.1.step.1.c=F.w.c:=by unfold fU.tick;rw[if_neg (by omega)];rfl
 have M:F.w.tick.1.step.1.p=F.w.p:=by unfold fU.tick;rw[if_neg (by omega)];rfl
 have A:F.w.p.length=N:=by rw[h.fn.ok.p];exact h.len
 have l:∀i,i<N->F.w.now i<=F.tick.1.w.now i:=by
  intro i f;rw[ew,JT (by rw[A];exact f),JT (by rw[M,A];exact f),ec,y];exact KI _ _ _ (by omega)
 have e:∀i n,F.n[i]?=some n->∃d,F.tick.1.n[i]?=some d/\d.c=n.c/\d.fv=n.fv/\d.t=if cA (F.tick.1.w.now i)=true then n.t.tx (F.tick.1.w.now i) 30 else n.t:=by
  intro i n k;have f:i<F.n.length:=(List.getElem?_eq_some_iff.1 k).1;have:=Ir {F with w:=F.w.tick.1.step.1} F.w.tick.1.step.2 i n k (h.UV (by rw[<-h.len];exact f)) F.n.length f;obtain⟨R,Q,B⟩:=LH n (F.w.tick.1.step.1.now i) (F.w.tick.1.step.1.fine i F.w.tick.1.step.2);rw[(h.nd i n k).1] at B;refine⟨_,by rw[m];exact this,R,Q,?_⟩;rw[ew];exact B
 obtain⟨L,x,-,v⟩:=S.OA (by omega) (by have:=h.tm;omega);refine⟨⟨⟨L,x.mono (fun _=>by omega),v.trans J⟩,h.fn.tick,by rw[ew,y,h.tm];omega,by rw[eo];exact h.on,by rw[z];exact h.len,by rw[ew,ec];exact h.sk,?_⟩,by rw[m],fun i n k=>?_⟩
 ·intro i d j;have f:i<F.n.length:=by rw[<-z];exact(List.getElem?_eq_some_iff.1 j).1
  obtain⟨E,g,H,C,s⟩:=e i _ (List.getElem?_eq_getElem f);rw[j] at g;injection g with g;subst g
  obtain⟨O,P⟩:=h.nd i _ (List.getElem?_eq_getElem f);refine⟨by rw[H];exact O,fun q o=>?_⟩
  have u:q∈F.n[i].t.ents:=by
   rw[s] at o;split at o
   ·exact(List.mem_filter.1 o).1
   ·exact o
  exact Int.le_trans (P q u) (l i (by rw[<-h.len];exact f))
 ·obtain⟨d,g,-,C,s⟩:=e i n k;exact⟨d,g,C,s⟩
theorem Sil.deliver{N K:Nat}{F:FleetD}(h:Sil N K F)(Y:K<=100)(i:Int):Sil N K (F.deliver i).1:=by
 obtain⟨X,T,I⟩:=h.fs;have A:=h.tm;obtain⟨J,x,-,v⟩:=T.Qb (fun _=>by omega) (by omega) h.fn.ok.t.steps.1 (fun n l a b c f=>f.hear l a b c) i;have u:=h.fn.deliver i
 have r : (F.deliver i).1.w.time = F.w.time/\(F.deliver i).1.w.c = F.w.c/\(F.deliver i).1.w.p = F.w.p/\(F.deliver i).1.on = F.on/\(F.deliver i).1.n.length = F.n.length/\
     ∀j d,(F.deliver i).1.n[j]?=some d->∃n,F.n[j]?=some n/\d.c=n.c/\oh (F.w.now j) n.t d.t:=by
  unfold FleetD.deliver;split
  ·exact⟨rfl,rfl,rfl,rfl,rfl,fun j d f=>⟨d,f,rfl,.refl⟩⟩
  ·split
   ·exact⟨rfl,rfl,rfl,rfl,rfl,fun j d f=>⟨d,f,rfl,.refl⟩⟩
   ·rename_i m hm;simp only;split
    ·exact⟨rfl,rfl,rfl,rfl,rfl,fun j d f=>⟨d,f,rfl,.refl⟩⟩
    ·split
     ·unfold FleetD.hear;simp only;cases f:F.n[m.til]? with
      | none=>exact⟨rfl,rfl,rfl,rfl,rfl,fun j d f=>⟨d,f,rfl,.refl⟩⟩
      | some n=>
       simp only;obtain⟨G,B,E,W⟩:=zM (FleetD.setN {F with w:=F.w.step.1,a:=F.a.eraseIdx i.toNat} m.til (n.hear m.data m.at_ (F.w.step.1.now m.til) (F.w.step.1.fine m.til F.w.step.2)).1) m.til F.w.step.2 (n.hear m.data m.at_ (F.w.step.1.now m.til) (F.w.step.1.fine m.til F.w.step.2)).2.1;rw[G,B,E];refine⟨rfl,rfl,rfl,rfl,?_,fun j d s=>?_⟩
       ·show(F.n.set m.til _).length=_;rw[List.length_set]
       ·have g:(F.n.set m.til (n.hear m.data m.at_ (F.w.step.1.now m.til) (F.w.step.1.fine m.til F.w.step.2)).1)[j]?=some d:=s;rcases Nat.decEq m.til j with e|e
        ·rw[List.getElem?_set,if_neg e] at g;exact⟨d,g,rfl,.refl⟩
        ·subst e;rw[List.getElem?_set,if_pos rfl,if_pos (List.getElem?_eq_some_iff.1 f).1] at g;injection g with g;subst g
         have k:=Ph n m.data m.at_ (F.w.step.1.now m.til) (F.w.step.1.fine m.til F.w.step.2);exact⟨n,f,k.2,k.1⟩
     ·exact⟨rfl,rfl,rfl,rfl,rfl,fun j d f=>⟨d,f,rfl,.refl⟩⟩
 obtain⟨z,y,M,D,L,U⟩:=r;have o:∀j,(F.deliver i).1.w.now j=F.w.now j:=by intro j;unfold fU.now;rw[z,y,M]
 refine⟨⟨J,x,v.trans I⟩,u,z.trans h.tm,D.trans h.on,L.trans h.len,by rw[y];exact h.sk,fun j d s=>?_⟩;obtain⟨n,S,C,V⟩:=U j d s;obtain⟨P,R⟩:=h.nd j n S;refine⟨by rw[C];exact P,fun q O=>?_⟩;rw[o];rcases V q O with e|⟨Q,H,Z⟩
 ·omega
 ·have:=R Q H;omega
theorem Sil.flush{N K:Nat}{F:FleetD}(h:Sil N K F)(d:K<=100):∀k,Sil N K (flsF F k).1
 | 0=>h
 | k+1=>(Sil.flush h d k).deliver d _
theorem Sil.round{N K:Nat}{F:FleetD}(h:Sil N K F)(d:K<=99):Sil N (K+1) (O0 F):=(h.tick (by omega)).1.flush (by omega) _
theorem Sil.rounds{N:Nat}{F:FleetD}(h:Sil N 0 F):∀k,k<=20->Sil N k (rndF F k)
 | 0,_=>h
 | k+1,hk=>(Sil.rounds h k (by omega)).round (by omega)
theorem Sil.ticks{N K:Nat}{F:FleetD}(h:Sil N K F):∀k,K+k<=100->Sil N (K+k) (tksF F k)
 | 0,_=>h
 | k+1,hk=>((Sil.ticks h k (by omega)).tick (by omega)).1
theorem Sil.JJ{N K:Nat}{F:FleetD}(h:Sil N K F){i:Nat}{n:NodeD}(e:F.n[i]?=some n):∀k,K+k<=100->∃f,(tksF F k).n[i]?=some f/\f.fv=n.fv/\∀q∈f.t.ents,q.2.heard<=F.w.now i
 | 0,_=>⟨n,e,rfl,(h.nd i n e).2⟩
 | k+1,hk=>by
  obtain⟨r,p,j,s⟩:=Sil.JJ h e k (by omega)
  obtain⟨-,-,g⟩:=(h.ticks k (by omega)).tick (by omega)
  obtain⟨l,m,o,u⟩:=g i r p
  refine⟨l,m,o.trans j,fun q d=>s q ?_⟩
  rw[u] at d
  split at d
  ·exact(List.mem_filter.1 d).1
  ·exact d
theorem Vr(i:Nat):-1<=offF i 7 1/\offF i 7 1<=1:=by
 unfold offF;rw[Int.tmod_eq_emod_of_nonneg (by omega)];omega
theorem IL(s t:Int)(h:0<=t/\t<=1000)(f : -1<=s/\s<=1):localF s t=max 0 (t+s):=by
 unfold localF;have d:btw t 0 1000000=t:=by unfold btw;omega
 have e:btw s (-1000000) 1000000=s:=by unfold btw;omega
 rw[d,e];unfold btw;omega
theorem Sil.silent{N K:Nat}{F:FleetD}(h:Sil N K F)(M:K<=20){i:Nat}{n:NodeD}(m:F.n[i]?=some n)(k:Nat)(O:k=32):∃f,(tksF F (k+1)).n[i]?=some f/\f.fv=n.fv/\f.t.ents=[]:=by
 obtain⟨I,H,s,J⟩:=h.JJ m k (by omega);have S:=h.ticks k (by omega);obtain⟨d,-,g⟩:=S.tick (by omega);obtain⟨u,E,G,L⟩:=g i I H;have o:i<N:=by rw[<-h.len];exact(List.getElem?_eq_some_iff.1 m).1
 refine⟨u,E,G.trans s,?_⟩
 have j:(tksF F k).tick.1.w.now i=localF (offF i 7 1) (K+33):=by
  rw[JT (by rw[d.fn.ok.p,d.len];exact o),d.sk,d.tm,show(((K+k+1:Nat)):Int)=(K:Int)+33 by omega]
 have r:F.w.now i=localF (offF i 7 1) K:=by rw[JT (by rw[h.fn.ok.p,h.len];exact o),h.sk,h.tm]
 have l:=Vr i;have C:=IL (offF i 7 1) (K+33) (by omega) l;have A:=IL (offF i 7 1) K (by omega) l;obtain⟨z,v⟩:∃z,localF (offF i 7 1) (K+33)=z:=⟨_,rfl⟩;obtain⟨y,B⟩:∃y,localF (offF i 7 1) K=y:=⟨_,rfl⟩;rw[v] at j C;rw[B] at r A;have e:cA z=true:=(zD z).2 (by omega);rw[L,j,if_pos e];show List.filter _ _=[];rw[List.filter_eq_nil_iff];intro q D;have:=J q D;rw[r] at this
 have x:Cp 30 z q.2=true:=by
  unfold Cp;simp only[Bool.and_eq_true,decide_eq_true_eq];omega
 rw[x];decide
theorem Sil.there{N K:Nat}{F:FleetD}(h:Sil N K F){i:Nat}{n:NodeD}(d:F.n[i]?=some n)(e:n.fv=true):∃p,F.w.p[i]?=some p/\n.fe.has p.1 p.2=true:=by
 obtain⟨X,f,-⟩:=h.fs;exact Ug f d e
section
variable {ow:Nat->Nat} {w wr:World} {g tw ta:Nat} {gs:List Nat} {nv bv:Value} {F:FleetD}
theorem Sp(x:FlO ow w g tw ta gs nv bv F wr)(S:cV F)(i:Nat)(n:NodeD)(Q:F.n[i]?=some n)(v:Value)(l:List Nat)(p:RdB wr v l)(a G:Int)(hG:0<=G/\G<=35184372088832)(V:MB n (n.hear l a (F.w.now i) (F.w.fine i G)).1 l a (F.w.now i) (F.w.fine i G) (n.hear l a (F.w.now i) (F.w.fine i G)).2.1)(R:(n.hear l a (F.w.now i) (F.w.fine i G)).2.1.length<=1000000):Calls prog 72 #[ptr g,i,v,a,G] wr fun e d=>e=.returned (.tuple #[])/\FlO ow w g tw ta gs nv bv (F.hear i l a G) d:=by
 have h:=(List.getElem?_eq_some_iff.1 Q).1;obtain⟨U,D,-⟩:=id x;have Z:=D.ln;obtain⟨nb,cn,rfl,a8,a0⟩:=x.node h;obtain⟨q0,q1,a5,a3,a4,f1,y1⟩:=x.cells;obtain⟨X,t,rfl⟩:∃X t,v=.slice X l.length t:=p.form;have HN:zX wr 68 #[ptr tw,i] (.int .i64 (F.w.now i)):=fun m A=>(x.below A).Tf S i h;have HF:zX wr 69 #[ptr tw,i,G] (.int .i64 (F.w.fine i G)):=fun m A=>(x.below A).J4 S i h G (by omega);have Y:Hid (F.hear i l a G=(F.setN i (n.hear l a (F.w.now i) (F.w.fine i G)).1).send i (n.hear l a (F.w.now i) (F.w.fine i G)).2.1 G):=by show _=_;unfold FleetD.hear;rw[Q]
 obtain⟨⟨K,o,ke⟩,ho⟩:∃r,n.hear l a (F.w.now i) (F.w.fine i G)=r:=⟨_,rfl⟩;rw[ho] at V R Y
 have B:Hid (∀m,zB wr m->Calls prog 146 #[ptr (gs.getD i 0),.slice X l.length t,a,.int .i64 (F.w.now i),.int .i64 (F.w.fine i G)] m fun e d=>∃f c k,e=.returned (.tuple #[.slice f o.length c,k])/\Hid (FlV ow w g tw ta gs (.slice (some ⟨nb,0,none⟩) gs.length cn) bv (F.setN i K) o (.slice f o.length c) d)/\d.cell? ⟨nb,i,none⟩=some (ptr (gs.getD i 0))):=fun m A=>
  ((x.below A).Nk i n K l a _ _ o Q V _ (p.below A)).mono (by
   rintro e d ⟨vo,k,rfl,W⟩;obtain⟨U,h1,h2,h3,h4⟩:=id W;obtain⟨f,c,rfl⟩:=kh h3;obtain⟨b2,c2,u,-,hc⟩:=(FlV.fl W).node (j:=i) (by show i<(F.n.set i K).length;rw[List.length_set];exact h);injection u with u _ _
   injection u with u
   injection u with u
   subst u;exact⟨f,c,k,rfl,W,hc⟩)
 have s:Hid (∀v m,FlV ow w g tw ta gs (.slice (some ⟨nb,0,none⟩) gs.length cn) bv (F.setN i K) o v m->Calls prog 66 #[ptr g,i,v,G] m fun e d=>e=.returned (.tuple #[])/\Hid (FlO ow w g tw ta gs (.slice (some ⟨nb,0,none⟩) gs.length cn) bv (F.hear i l a G) d)):=fun v m p=>by
  rw[Y.out];exact p.OT (Ii S i _) i (by show i<(F.n.set i _).length;rw[List.length_set];exact h) R G hG
 have k1:(i:Int)<(gs.length:Int):=by omega
 have k2:(0:Int)<=(i:Int):=by omega
 obtain⟨nw,J⟩:∃z,F.w.now i=z:=⟨_,rfl⟩;obtain⟨fn,N⟩:∃z,F.w.fine i G=z:=⟨_,rfl⟩;obtain⟨gk,L⟩:∃z,gs.getD i 0=z:=⟨_,rfl⟩;obtain⟨FK,O⟩:∃z,F.setN i K=z:=⟨_,rfl⟩;obtain⟨FL,I⟩:∃z,F.hear i l a G=z:=⟨_,rfl⟩;have a6:o.length<=1000000:=R;rw[J] at HN B;rw[N] at HF B;rw[L] at B a0;rw[O] at B s;rw[I] at s ⊢;clear x S V Q p D hG R ho Y J N L O I Z;go_enter func72,ntmps72;go_wp2_with fail
 go_region_held3 (fun d=>d.cell? ⟨g,0,none⟩=some (ptr tw)/\d.cell? ⟨g,13,none⟩=some (.slice (some ⟨nb,0,none⟩) gs.length cn)/\d.cell? ⟨nb,i,none⟩=some (ptr gk)) (go_simp)
  (first
  | (go_at_call 68;refine(HN.out _ ad).mono ?_;rintro e w3 ⟨rfl,y⟩;have E:=y.size;(try simp at E);have P:=bq y (g);have H:=bq y (nb))
  | (go_at_call 69;refine(HF.out _ ad).mono ?_;rintro e w4 ⟨rfl,q⟩;have C:=q.size;(try simp at C);have T:=bq q (g);have M:=bq q (nb))
  | (go_at_call 146;refine(B.out _ ad).mono ?_;rintro e w5 ⟨f,c,k,rfl,p,vn⟩;obtain⟨v0,v1,a2,a7,a1,vf,vy⟩:=p.out.fl.cells))
 all_goals go_wp2_with (go_at_call 66;refine(s.out _ _ p.out).mono ?_;rintro e w6 ⟨rfl,hq⟩)
 all_goals refine bodyPost_end (results_none rfl _ _ _) rfl ?_
 all_goals exact⟨rfl,hq.out⟩
theorem FlO.Tk{F:FleetD}(h:FlO ow w g tw ta gs nv bv F wr)(r:cV F)(i:Nat)(m:gE)(s:F.a[i]?=some m):Calls prog 70 #[ptr ta,i] wr fun e j=>∃f c,e=.returned (.tuple #[AB m (.slice f m.data.length c),true])/\RdS (fun k=>wr.heap.size<=k) j (.slice f m.data.length c) m.data/\zB wr j:=by
 obtain⟨q,u,-⟩:=h;obtain⟨v,x,l,o⟩:=u.a;have z:x.length<=1000:=by have:=r.a;rw[<-l] at this;simp at this;omega
 have d:=s;rw[<-l,List.getElem?_map,Option.map_eq_some_iff] at d;obtain⟨p,t,rfl⟩:=d;refine(Lm o i p t z).mono ?_;rintro e j ⟨A,rfl,n,y⟩;obtain⟨f,c,rfl⟩:=n.form;exact⟨f,c,rfl,n,y⟩
theorem FlO.take_c{F:FleetD}(h:FlO ow w g tw ta gs nv bv F wr)(p:cV F)(i:Nat)(d:i<F.a.length):Calls prog 71 #[ptr ta,i] wr fun e j=>(∃q,e=.returned q)/\FlO ow w g tw ta gs nv bv {F with a:=F.a.eraseIdx i} j:=by
 obtain⟨o,l,r⟩:=h;obtain⟨v,s,c,n⟩:=l.a;have x:s.length<=1000:=by have:=p.a;rw[<-c] at this;simp at this;omega
 refine(Od n i (by rw[<-c] at d;simpa using d) x).mono ?_;rintro e j ⟨t,f,m⟩;rw[c] at m;exact⟨t,_,l.Ki f (m.mono (fun k _ u=>.inl u)),r.trans (FT.zZ (by unfold Rn;decide) f 2)⟩
def FlD(ow:Nat->Nat)(w:World)(g tw ta:Nat)(gs:List Nat)(nv bv:Value)(F:FleetD)(b:Nat)(cs:Array Value)(v:Value)(xs:List Nat)(wr:World):Prop:=
 ∃owr,cY owr wr g tw ta gs nv bv F/\FT Rn ow owr w wr/\Blk wr b cs 143/\owr b=0/\RdS (fun k=>owr k=0) wr v xs
section
variable {b:Nat} {cs:Array Value} {v:Value} {xs:List Nat}
theorem FlD.step(h:FlD ow w g tw ta gs nv bv F b cs v xs wr):∃a,FlO a wr g tw ta gs nv bv F wr/\∀c w',FlO a wr g tw ta gs nv bv c w'->FlD ow w g tw ta gs nv bv c b cs v xs w':=by
 obtain⟨a,l,f,k,e,m⟩:=h;refine⟨a,⟨a,l,FT.refl⟩,?_⟩;rintro c w' ⟨d,j1,j2⟩;obtain⟨j,i⟩:=j2.blk k (by rw[e];exact M5);exact⟨d,j1,f.trans j2,j,i.trans e,j2.rdS M5 m⟩
theorem FlD.below(h:FlD ow w g tw ta gs nv bv F b cs v xs wr){a:World}(hb:zB wr a):FlD ow w g tw ta gs nv bv F b cs v xs a:=by
 obtain⟨d,e,c⟩:=h.step;exact c _ _ (e.below hb)
theorem FlD.fl(h:FlD ow w g tw ta gs nv bv F b cs v xs wr):FlO ow w g tw ta gs nv bv F wr:=by
 obtain⟨a,d,c,-⟩:=h;exact⟨a,d,c⟩
theorem FlD.blk(h:FlD ow w g tw ta gs nv bv F b cs v xs wr):Blk wr b cs 143:=by
 obtain⟨a,e,d,c,-⟩:=h;exact c
theorem FlD.rd(h:FlD ow w g tw ta gs nv bv F b cs v xs wr):RdB wr v xs:=by
 obtain⟨a,i,d,f,e,c⟩:=h;exact c.rd
theorem FlD.step_c(h:FlD ow w g tw ta gs nv bv F b cs v xs wr)(j:cV F):Calls prog 65 #[ptr tw] wr fun e a=>e=.returned (.int .i64 F.w.step.2)/\FlD ow w g tw ta gs nv bv {F with w:=F.w.step.1} b cs v xs a:=by
 obtain⟨d,f,c⟩:=h.step;exact(f.step_c j).mono (by rintro e a ⟨rfl,i⟩;exact⟨rfl,c _ _ i⟩)
theorem FlD.take_c(h:FlD ow w g tw ta gs nv bv F b cs v xs wr)(m:cV F)(i:Nat)(n:i<F.a.length):Calls prog 71 #[ptr ta,i] wr fun e c=>(∃o,e=.returned o)/\FlD ow w g tw ta gs nv bv {F with a:=F.a.eraseIdx i} b cs v xs c:=by
 obtain⟨j,k,f⟩:=h.step;exact(k.take_c m i n).mono (by rintro e c ⟨d,l⟩;exact⟨d,f _ _ l⟩)
theorem FlO.toD(h:FlO ow w g tw ta gs nv bv F wr){u e:World}(i:zB wr e)(f:zB e u)(a:Blk u b cs 143)(o:e.heap.size<=b)(l:RdS (fun k=>wr.heap.size<=k) e v xs):FlD ow w g tw ta gs nv bv F b cs v xs u:=by
 obtain⟨c,n,j⟩:=h;have m:=i.size;have d:zB wr u:=i.trans (f.mono m);refine⟨ext c wr.heap.size 0,n.below d 0,j.trans (FT.of_below d 0),a,?_,l.kept f.size (fun k a _=>f.block k a) (fun k _ a=>?_)⟩
 ·unfold ext;rw[if_neg (by omega)]
 ·have a:wr.heap.size<=k:=a;show ext c wr.heap.size 0 k=0;unfold ext;rw[if_neg (by omega)]
end
end
end Go.Proofs.YtechbdnhalmobaaGreatDoor
