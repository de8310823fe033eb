/- Walks. -/
import Derived.Test.YtechbdnhalmobaaGreatDoorA25
import Derived.BigQuiet
namespace Go.Proofs.YtechbdnhalmobaaGreatDoor
set_option linter.unusedSimpArgs false
set_option linter.unusedVariables false
set_option maxRecDepth 100000
set_option maxHeartbeats 16000000
open Go.Proofs.Tryz
open Go.RowKit Go.Maps
theorem Mf(n:NodeD)(b a:Int)(k:Int)(h:nextF ((n.t.all.filter (·.has)).map (·.node)) n.told=(k,false)):n.tell b a=(n,[]):=by
 unfold NodeD.tell;rw[h];rfl
theorem Hf(n:NodeD)(a b:Int)(k:Int)(h:nextF ((n.t.all.filter (·.has)).map (·.node)) n.told=(k,true))(x:EntD)(d:(lk n.t.ents k).getD .zero=x)(c:¬(k≠n.id/\x.when<=a)):n.tell a b=({n with told:=k},[]):=by
 unfold NodeD.tell;rw[h];simp only[Bool.true_eq_false,if_false,d];rw[if_neg c]
theorem Kl(n:NodeD)(f c:Int)(k:Int)(h:nextF ((n.t.all.filter (·.has)).map (·.node)) n.told=(k,true))(x:EntD)(j:(lk n.t.ents k).getD .zero=x)(g:k≠n.id/\x.when<=f)(r:NodeD×(Int×Bool)×List ky)(i:NodeD.send {n with told:=k} f c {fr0 6 with who:=k,x:=x.e.x,y:=x.e.y,a:=x.e.a,b:=x.e.b,d:=x.e.d,when:=x.when}=r):n.tell f c=(r.1,r.2.2):=by
 unfold NodeD.tell;rw[h];simp only[Bool.true_eq_false,if_false,j];rw[if_pos g,i]
theorem Pc(b:List Int)(a k:Int)(h:nextF b a=(k,true)):k∈b:=by
 have g:∀(l:List Int) (s:NxD),(s.any=true->s.least∈b)->(s.behind=true->s.next∈b)->(∀x∈l,x∈b)->((l.foldl (nxStep a) s).any=true->(l.foldl (nxStep a) s).least∈b)/\((l.foldl (nxStep a) s).behind=true->(l.foldl (nxStep a) s).next∈b):=by
  intro l;induction l with
  | nil=>intro s c d _;exact⟨c,d⟩
  | cons x r i=>
   intro s c d f;refine i _ ?_ ?_ (fun y j=>f y (by simp[j]))
   ·unfold nxStep;simp only;split<;>split<;>intro e<;>first|exact f x (by simp)|exact c e
   ·unfold nxStep;simp only;split<;>split<;>intro e<;>first|exact f x (by simp)|exact d e
 obtain⟨n,m⟩:=g b ⟨0,false,0,false⟩ (fun h=>by cases h) (fun h=>by cases h) (fun _ h=>h);unfold nextF at h;simp only at h;split at h
 ·rename_i o;injection h with c _;rw[<-c];exact m o
 ·injection h with c d;rw[<-c];exact n d
theorem Te(t:cB)(d:dA t)(l:List EntD)(e:∀x∈l,x∈t.all)(a k:Int)(h:nextF (l.map (·.node)) a=(k,true)):0<=k/\k<64:=by
 have b:=Pc _ _ _ h;rw[List.mem_map] at b;obtain⟨x,f,rfl⟩:=b;have:=e x f;unfold cB.all at this;rw[List.mem_map] at this;obtain⟨p,c,rfl⟩:=this;have:=d.ents p c;omega
theorem Lk{α:Type}(x:Int×α):∀(m:List (Int×α)),m.Pairwise (fun p q=>p.1<q.1)->(∀p∈m,p.1≠x.1)->(Ic x m).Pairwise (fun p q=>p.1<q.1)
 | [],_,_=>List.pairwise_singleton _ _
 | y :: r,h,hne=>by
  obtain⟨c,d⟩:=List.pairwise_cons.1 h
  unfold Ic
  have e:=hne y (by simp)
  split
  ·rename_i b
   refine List.pairwise_cons.2 ⟨fun p a=>?_,h⟩
   rcases List.mem_cons.1 a with rfl|a
   ·exact b
   ·have:=c p a;omega
  ·refine List.pairwise_cons.2 ⟨fun p a=>?_,Lk x r d (fun p a=>hne p (by simp[a]))⟩
   rcases mem_insS.1 a with rfl|a
   ·omega
   ·exact c p a
theorem MA{α:Type}{m:List (Int×α)}(h:m.Pairwise (fun p q=>p.1<q.1))(k:Int)(v : α):(ins m k v).Pairwise (fun p q=>p.1<q.1):=
 Lk _ _ (List.Pairwise.filter _ h) (fun p a=>(Ar.1 a).2)
theorem dA.put{t:cB}(h:dA t)(n:Int)(v:EntD)(a:v.node=n/\0<=n/\n<64/\0<=v.boot/\v.boot<=65535/\0<=v.heard/\v.heard<=1000000/\(v.has=true->v.e.may=true)/\0<=v.when/\v.when<=1000000):dA {t with ents:=ins t.ents n v}:=
 ⟨h.most,fun p hp=>by
  rcases mem_ins.1 hp with rfl|⟨hp,-⟩
  ·exact a
  ·exact h.ents p hp,h.lives,MA h.asc n v,h.lasc⟩
theorem dA.live{t:cB}(h:dA t)(n:Int)(l:Ja)(b:0<=n/\n<64)(c:0<=l.boot/\l.boot<=65535/\0<=l.w.last/\l.w.last<=65535/\l.w.seen<18446744073709551616):dA {t with lives:=ins t.lives n l}:=
 ⟨h.most,h.ents,fun p a=>by
  rcases mem_ins.1 a with rfl|⟨a,-⟩
  ·exact⟨b.1,b.2,c⟩
  ·exact h.lives p a,h.asc,MA h.lasc n l⟩
theorem dA.drop{t:cB}(h:dA t)(n:Int):dA {t with ents:=del t.ents n}:=
 ⟨h.most,fun p a=>h.ents p (Ar.1 a).1,h.lives,List.Pairwise.filter _ h.asc,h.lasc⟩
theorem Mr(x:Ca)(s:Int)(h:0<=x.last/\x.last<=65535/\x.seen<18446744073709551616):0<=(x.hear s).1.last/\(x.hear s).1.last<=65535/\(x.hear s).1.seen<18446744073709551616:=by
 unfold Ca.hear;split
 ·exact h
 ·rename_i c;have b:0<=s/\s<=65535:=by simpa [ij] using c
  split
  ·exact⟨b.1,b.2,(by show 1<18446744073709551616;decide)⟩
  ·split
   ·exact h
   ·split
    ·exact⟨b.1,b.2,Nat.or_lt_two_pow (n:=64) (Nat.mod_lt _ (by decide)) (by decide)⟩
    ·split
     ·exact h
     ·refine⟨h.1,h.2.1,Nat.or_lt_two_pow (n:=64) h.2.2 ?_⟩;unfold Ca.bit;simp only;split
      ·decide
      ·exact Nat.pow_lt_pow_right (a:=2) (n:=64) (by decide) (by omega)
theorem NR:∀(l:List EntD),l≠[]->elderF l∈l
 | [],h=>absurd rfl h
 | x :: r,_=>by
  have a:∀(r:List EntD) (m:EntD) (l:List EntD),m∈l->(∀y∈r,y∈l)->r.foldl (fun m y=>if y.heard<m.heard∨y.heard=m.heard/\y.node<m.node then y else m) m∈l:=by
   intro r;induction r with
   | nil=>intro m l h _;exact h
   | cons y r d=>
    intro m l h b;refine d _ l ?_ (fun z e=>b z (by simp[e]));show(if y.heard<m.heard∨y.heard=m.heard/\y.node<m.node then y else m)∈l;split
    ·exact b y (by simp)
    ·exact h
  exact a r x (x :: r) (by simp) (fun y c=>by simp[c])
theorem P6{t:cB}(h:dA t)(c:1<=t.ents.length):0<=(elderF t.all).node/\(elderF t.all).node<64:=by
 have a:t.all≠[]:=by intro e;have:=congrArg List.length e;simp[cB.all] at this;simp[this] at c
 have:=NR t.all a;unfold cB.all at this;rw[List.mem_map] at this;obtain⟨p,b,e⟩:=this;have d:=h.ents p b;unfold cB.all;rw[<-e];omega
theorem dA.begin{t:cB}(h:dA t)(n boot:Int)(b:0<=n/\n<64)(d:0<=boot/\boot<=65535):dA (t.begin n boot).1/\(0<=(t.begin n boot).2.1.boot/\(t.begin n boot).2.1.boot<=65535/\0<=(t.begin n boot).2.1.w.last/\(t.begin n boot).2.1.w.last<=65535/\(t.begin n boot).2.1.w.seen<18446744073709551616):=by
 have f:dA {t with ents:=match lk t.ents n with|some x=>ins t.ents n ⟨n,x.boot,x.heard,false,.zero,0⟩|none=>t.ents}:=by
  cases hx:lk t.ents n with
  | none=>exact h
  | some x=>
   have a:=h.ents _ (pb hx);exact h.put n _ ⟨rfl,b.1,b.2,a.2.2.2.1,a.2.2.2.2.1,a.2.2.2.2.2.1,a.2.2.2.2.2.2.1,⟨fun h=>(by cases h),Int.le_refl 0,(by show(0:Int)<=1000000;decide)⟩⟩
 have z:(0:Int)<=0/\(0:Int)<=65535/\(0:Int)<=0/\(0:Int)<=65535/\0<18446744073709551616:=by decide
 have c:(0:Int)<=boot/\boot<=65535/\(0:Int)<=0/\(0:Int)<=65535/\0<18446744073709551616:=⟨d.1,d.2,by decide⟩;unfold cB.begin;cases hl:lk t.lives n with
 | none=>exact⟨f,c⟩
 | some l=>
  have a:=h.lives _ (pb hl);simp only;split
  ·split
   ·exact⟨h,z⟩
   ·exact⟨h,a.2.2⟩
  ·split
   ·exact⟨h,z⟩
   ·exact⟨f,c⟩
theorem dA.hear{t:cB}(h:dA t)(n boot a now:Int):dA (t.hear n boot a now).1:=by
 unfold cB.hear;split
 ·exact h
 ·rename_i f
  have k:(nodeB n=true)/\ij boot=true/\ij a=true/\cA now=true:=by
   refine⟨?_,?_,?_,?_⟩
   ·cases e:nodeB n;exact absurd (.inl e) f;rfl
   ·cases e:ij boot;exact absurd (.inr (.inl e)) f;rfl
   ·cases e:ij a;exact absurd (.inr (.inr (.inl e))) f;rfl
   ·cases e:cA now;exact absurd (.inr (.inr (.inr e))) f;rfl
  have b:0<=n/\n<64:=by simpa [nodeB] using k.1
  have c:0<=boot/\boot<=65535:=by simpa [ij] using k.2.1
  have d:0<=now/\now<=1000000:=by simpa [cA] using k.2.2.2
  obtain⟨j,i⟩:=h.begin n boot b c;split
  ·exact j
  ·have l:=Mr (t.begin n boot).2.1.w a i.2.2;have g:dA {(t.begin n boot).1 with lives:=ins (t.begin n boot).1.lives n {(t.begin n boot).2.1 with w:=((t.begin n boot).2.1.w.hear a).1}}:=j.live n _ b ⟨i.1,i.2.1,l⟩;simp only;split
   ·exact g
   ·cases hx:lk (t.begin n boot).1.ents n with
    | some x=>
     have m:=j.ents _ (pb hx);exact g.put n _ ⟨rfl,b.1,b.2,c.1,c.2,d.1,d.2,m.2.2.2.2.2.2.2⟩
    | none=>
     simp only;split
     ·exact(g.drop _).put n _ ⟨rfl,b.1,b.2,c.1,c.2,d.1,d.2,⟨fun h=>(by cases h),Int.le_refl 0,(by show(0:Int)<=1000000;decide)⟩⟩
     ·exact g.put n _ ⟨rfl,b.1,b.2,c.1,c.2,d.1,d.2,⟨fun h=>(by cases h),Int.le_refl 0,(by show(0:Int)<=1000000;decide)⟩⟩
theorem bL.told{n:NodeD}(h:bL n)(k:Int):bL {n with told:=k}:=⟨h.c,h.id,h.boot,h.seq,h.bad,h.t,h.b,h.tm,h.fe⟩
theorem bL.asked{n:NodeD}(h:bL n)(k:Int):bL {n with asked:=k}:=⟨h.c,h.id,h.boot,h.seq,h.bad,h.t,h.b,h.tm,h.fe⟩
theorem Lx(s:Int):0<=sc s/\sc s<=65535:=by unfold sc;split<;>omega
theorem bL.send{n:NodeD}(h:bL n)(d fine:Int)(f:FrD):bL (n.send d fine f).1:=by
 have a:=h.b;unfold NodeD.send;by_cases g:n.b.left=0
 ·have e:n.b.take=(n.b,false):=by unfold Am.take;rw[if_pos g]
  rw[e];exact h
 ·have e:n.b.take=(⟨n.b.n,n.b.left-1⟩,true):=by unfold Am.take;rw[if_neg g]
  rw[e];exact⟨h.c,h.id,h.boot,Lx _,h.bad,h.t,⟨by show 0<=n.b.left-1;omega,by show n.b.left-1<=1000;omega,a.2.2⟩,h.tm,h.fe⟩
theorem bL.tell{n:NodeD}(h:bL n)(a fine:Int):bL (n.tell a fine).1:=by
 unfold NodeD.tell;simp only;split
 ·exact h
 ·split
  ·exact(h.told _).send _ _ _
  ·exact h.told _
theorem bL.upd{n:NodeD}(h:bL n)(k:Nat)(s:cZ):bL (n.upd k s):=⟨h.c,h.id,h.boot,h.seq,h.bad,h.t,h.b,h.tm,h.fe⟩
theorem bL.poll{n:NodeD}(h:bL n)(a fine:Int):bL (n.poll a fine).1:=by
 unfold NodeD.poll;simp only;split
 ·exact h
 ·split
  ·exact((h.asked _).send _ _ _).upd _ _
  ·exact(h.asked _).send _ _ _
abbrev tyS:List TypeId:=[81,239,203,195,245]
structure NQ (S:Nat->Prop) (g s:Nat) (L:NLay) (now fine:Int) (w w':World) (n:NodeD) (l:List ky):Prop where
 t:aa S tyS false w w'
 n:NodeAt S w' g L n
 s:uA S w' s g now fine l
section
variable {S:Nat->Prop} {g s:Nat} {L:NLay} {now fine:Int} {w w1 w2:World} {n n2:NodeD} {l l2:List ky}
theorem NQ.trans(h:NQ S g s L now fine w w1 n l)(h2:NQ S g s L now fine w1 w2 n2 l2):NQ S g s L now fine w w2 n2 l2:=⟨h.t.trans h2.t (fun _ _ h=>h),h2.n,h2.s⟩
theorem NQ.refl(h:NodeAt S w g L n)(a:uA S w s g now fine l):NQ S g s L now fine w w n l:=⟨aa.refl,h,a⟩
theorem NQ.below(h:NQ S g s L now fine w w1 n l)(hb:zB w1 w2):NQ S g s L now fine w w2 n l:=
 ⟨h.t.trans (aa.of_below (S:=S) hb) (fun _ _ h=>h),h.n.below hb,h.s.nr (aa.of_below (S:=S) (ty:=[]) (mp:=false) hb) (by simp) (by simp)⟩
theorem NQ.cell(h:NQ S g s L now fine w w1 n l)(i:Nat)(v:Value){m:NodeD}(c:(uu L n).setIfInBounds i v=uu L m)(d:m.cap=n.cap)(o:m.fv=n.fv)(f:m.fe=n.fe)(a:m.t=n.t)(k:m.s=n.s)(e:m.b=n.b)(j:m.tm=n.tm):NQ S g s L now fine w (w1.setCell ⟨g,i,none⟩ v) m l:=by
 have O:ah g w1 (w1.setCell ⟨g,i,none⟩ v):=ah.refl.setCell i v;have T:aa S [81] false w1 (w1.setCell ⟨g,i,none⟩ v):=aa.cU O h.n.blk (by simp) h.n.sg;exact⟨h.t.trans (T.mono (fun _ _ h=>h) (by simp) (fun h=>h)) (fun _ _ h=>h),h.n.Kt O ((h.n.blk.ab i v).of_eq c) d o f a k e j,h.s.nr T (by decide) (by decide)⟩
theorem NQ.snd(h:uA S w s g now fine l):w.cell? ⟨s,0,none⟩=some (ptr g)/\w.cell? ⟨s,1,none⟩=some (.int .i64 now)/\w.cell? ⟨s,2,none⟩=some (.int .i64 fine)/\s<w.heap.size:=by
 obtain⟨v,B,a,-⟩:=h.ex;exact⟨a.cell rfl,a.cell rfl,a.cell rfl,a.lt⟩
theorem Hm(H:NodeAt S w g L n)(OK:bL n)(HS:uA S w s g now fine l)(f:FrD)(j:l.length<=1000)(r:NodeD×(Int×Bool)×List ky)(c:n.send now fine f=r):Calls prog 138 #[ptr s,frV f] w fun e w'=>e=.returned (.tuple #[.int .i64 r.2.1.1,.bool r.2.1.2])/\NQ S g s L now fine w w' r.1 (l++r.2.2):=by
 subst c;cases hb:n.b.take.2 with
 | false=>
  have e:n.send now fine f=(n,(0,false),[]):=by unfold NodeD.send;rw[hb];rfl
  rw[e];refine(Ri H OK HS hb f).mono ?_;rintro e w' ⟨rfl,h⟩;exact⟨rfl,by simpa using(NQ.refl H HS).below h⟩
 | true=>
  have e:(n.send now fine f).2.1=(n.boot*65536+n.seq,true):=by unfold NodeD.send;rw[hb];rfl
  refine(Rg H OK HS n.b.take.1 (by rw[<-hb]) f j).mono ?_;rintro k w' ⟨rfl,i,a,d⟩;rw[e];exact⟨rfl,i.mono (fun _ _ h=>h) (by simp) (fun h=>h),a,d⟩
end
theorem Pn{S:Nat->Prop}{w:World}{g:Nat}{L:NLay}{n:NodeD}(H:NodeAt S w g L n)(OK:bL n)(w1:World)(f:zB w w1):Calls prog 27 #[ptr L.t] w1 fun e a=>∃A c,e=.returned (.slice A n.t.all.length c)/\a.ownsRow w1.heap.size 99 10 (.slice A n.t.all.length c) n.t.all.length (n.t.all.flatMap nW)/\zB w1 a:=by
 have e:n.t.all.length=n.t.ents.length:=by simp[cB.all]
 refine(EE (H.t.below f) OK.t).mono ?_;rintro h a ⟨v,rfl,d,-,b⟩;obtain⟨A,c,rfl⟩:=kh d;rw[e];exact⟨A,c,rfl,d,b⟩
section
variable {S:Nat->Prop} {w:World} {g:Nat} {L:NLay} {n:NodeD} {s:Nat} {now fine:Int} {l:List ky} (H:NodeAt S w g L n) (OK:bL n) (HS:uA S w s g now fine l)
include H OK HS
theorem Ml(hl:l.length<=1000):Calls prog 139 #[ptr g,ptr s] w fun e w'=>e=.returned (.tuple #[])/\NQ S g s L now fine w w' (n.tell now fine).1 (l++(n.tell now fine).2):=by
 obtain⟨⟨k,b⟩,hr⟩:∃r,nextF ((n.t.all.filter (·.has)).map (·.node)) n.told=r:=⟨_,rfl⟩;have W:n.t.all.length<=64:=by have:=OK.t.len.1;simpa [cB.all] using this
 have HA:=Lh (Pn H OK)
 have HT:Hid (∀w1 w2 B A c,w1.ownsRow B 99 10 (.slice A n.t.all.length c) n.t.all.length (n.t.all.flatMap nW)->zB w1 w2->zR 187 #[.slice A n.t.all.length c,.int .i64 n.told] w2 (.tuple #[k,b])):=fun w1 w2 B A c h hb=>by
  have:=Sd n.t.all B A c n.told w2 W (cv h hb);rw[hr] at this;exact this
 have HH:=Lh H;have HO:=Lh OK;have HQ:=Lh (NQ.refl H HS);have R:=Lh hr;obtain⟨-,-,-,-,-,-,-,-,-,f,-,-,-,j,-,-,fz,yg⟩:=ca H.blk;clear H OK HS hr;go_enter func139,ntmps139;go_wp2_with fail
 go_region_held3 (fun w'=>w'.cell? ⟨g,14,none⟩=some (ptr L.t)/\w'.cell? ⟨g,82,none⟩=some (.int .i64 n.told)) (go_simp)
  (first
  | (go_at_call 27;refine(HA.out _ ad).mono ?_;rintro e w1 ⟨A,c,rfl,C,N⟩;have y:=N.size;(try simp at y);have o:=bq N (g))
  | (go_at_call 187;refine(HT.out w1 _ _ A c C ad).mono ?_;rintro e w2 ⟨rfl,J⟩;have z:=J.size;(try simp at z);have m:=bq J (g)))
 have W2:zB w w2:=ad;have p:=Lh (HQ.out.below W2);clear f j fz yg HA HT HQ C N J;clear y o;clear z m;clear W2;cases b with
 | false=>
  have G:=Lh (Mf n now fine k R.out);go_wp2_with fail;refine bodyPost_ret (results_none rfl _ _ _) rfl ?_;rw[G.out];exact⟨rfl,by simpa using p.out⟩
 | true=>
  have a2:=Te n.t HO.out.t _ (fun x Q=>(List.mem_filter.1 Q).1) n.told k R.out;obtain⟨r,M⟩:∃r,lk n.t.ents k=r:=⟨_,rfl⟩;obtain⟨x,Q⟩:∃x,r.getD .zero=x:=⟨_,rfl⟩;obtain⟨ok,O⟩:∃b,r.isSome=b:=⟨_,rfl⟩;have V:(lk n.t.ents k).getD .zero=x:=by rw[M];exact Q
  have HX:=Lh V
  have HG:Hid (∀w1 T,dR S w1 L.t T n.t->zR 93 #[ptr L.t,k] w1 (.tuple #[kx x,ok])):=fun w1 T h=>by
   have:=Ch h k (by omega) r M;rw[Q,O] at this;exact this
  obtain⟨x0,x1,x2,x3,⟨e0,e1,e2,e3,e4⟩,P⟩:=x;clear Q O V M;obtain⟨-,-,-,-,-,-,-,-,-,f,-,-,-,j,-,-,fz,yg⟩:=ca p.out.n.blk;go_wp2_with fail;refine jj ?_;intro u hu;have Y:Hid (NQ S g s L now fine w u {n with told:=k} l):=by rw[hu];exact p.out.cell 82 _ (LO _ _ _) rfl rfl rfl rfl rfl rfl rfl
  clear hu f j fz yg p;obtain⟨-,-,-,-,-,-,-,-,-,f,-,-,-,j,-,-,fz,yg⟩:=ca Y.out.n.blk;refine(HG.out _ _ Y.out.n.t).mono ?_;rintro e w3 ⟨rfl,K⟩;clear f j fz yg;go_wp2_with fail;refine eN ?_;intro u2 E;have AL:zB u u2:=by rw[E];exact K.alloc K.size _
  have UE:Hid (Blk u2 w3.heap.size (entC ⟨x0,x1,x2,x3,⟨e0,e1,e2,e3,e4⟩,P⟩) 99):=by rw[E];exact Blk.new _ _ _
  have q:=Lh (Y.out.below AL);clear E AL K Y;have D:=fun d U=>cell_regrown (ca q.out.n.blk).2.2.2.2.2.2.1 d U;have q5:=fun d U=>cell_regrown (UE.out.cell (i:=9) (v:=.int .i64 P) rfl) d U;have Z:=fun d U=>cell_regrown (NQ.snd q.out.s).2.1 d U;by_cases X:k=n.id
  ·have G:=Lh (Hf n now fine k R.out _ HX.out (fun h=>h.1 X));have c2:(k != n.id)=false:=by simp[X]
   refine wp_region_quiet_below (by kernel_rfl) (by kernel_rfl) ?_;repeat (go_big_quiet_step (fail))
   refine wpQuiet_nil ?_;intro wq a;have F:=Lh (q.out.below (ay a));clear a D q5 Z q;go_wp2_with fail;refine bodyPost_end (results_none rfl _ _ _) rfl ?_;rw[G.out];exact⟨rfl,by simpa using F.out⟩
  ·have c2:(k != n.id)=true:=by simp[X]
   by_cases c3:P<=now
   ·obtain⟨rs,I⟩:∃r,NodeD.send {n with told:=k} now fine ⟨6,0,0,0,0,0,0,0,k,P,e0,e1,e2,e3,e4⟩=r:=⟨_,rfl⟩;have G:=Lh (Kl n now fine k R.out _ HX.out ⟨X,c3⟩ rs I);have a1:=Lh I;clear I;refine wp_region_quiet_below (by kernel_rfl) (by kernel_rfl) ?_;repeat (go_big_quiet_step (fail))
    refine wpQuiet_nil ?_;intro wq a;have F:=Lh (q.out.below (ay a));have UW:=Lh (UE.out.keep (ay a));clear a D q5 Z q UE;obtain⟨z1,z2,z3,z4⟩:=cz UW.out;go_wp2_with (first|(go_at_call 138;refine(Hm F.out.n (HO.out.told k) F.out.s ⟨6,0,0,0,0,0,0,0,k,P,e0,e1,e2,e3,e4⟩ hl rs a1.out).mono ?_;rintro e w9 ⟨rfl,a0⟩))
    refine bodyPost_end (results_none rfl _ _ _) rfl ?_;rw[G.out];exact⟨rfl,F.out.trans a0⟩
   ·have G:=Lh (Hf n now fine k R.out _ HX.out (fun h=>c3 h.2));refine wp_region_quiet_below (by kernel_rfl) (by kernel_rfl) ?_;repeat (go_big_quiet_step (fail))
    refine wpQuiet_nil ?_;intro wq a;have F:=Lh (q.out.below (ay a));clear a D q5 Z q;go_wp2_with fail;refine bodyPost_end (results_none rfl _ _ _) rfl ?_;rw[G.out];exact⟨rfl,by simpa using F.out⟩
end
section
variable {S:Nat->Prop} {w w':World} {g:Nat} {L:NLay} {n:NodeD}
theorem Iz(h:Blk w g (uu L n) 81)(i:Nat)(a:i<64):w.cell? ⟨g,15+i,none⟩=some (ptr (L.s i)):=by
 refine h.cell ?_;unfold uu;rw[List.getElem?_toArray,List.append_assoc,List.getElem?_append_right (by simp),List.getElem?_append_left (by simp;omega)];simp[a]
theorem NodeAt.S9(h:NodeAt S w g L n)(i:Nat)(m:i<64)(a:ah (L.s i) w w'){o:cZ}(q:Blk w' (L.s i) (xX o) 245):NodeAt S w' g L (n.upd i o):=
 have K {k:Nat} {c:Array Value} {t:TypeId} (p:Blk w k c t) (r:t≠245):Blk w' k c t:=a.blk p (Blk.ne p (h.s i m).1 r)
 ⟨K h.blk (by decide),h.sg,K h.f (by decide),h.sf,h.t.only a (h.s i m).1 (by decide) (by decide),fun j d=>⟨by
  show Blk w' (L.s j) (xX (if j=i then o else n.s j)) _
  by_cases e:j=i
  ·subst e;rw[if_pos rfl];exact q
  ·rw[if_neg e];exact a.blk (h.s j d).1 (fun u=>e (h.si j i d m u)),(h.s j d).2⟩,h.si,K h.b (by decide),h.sb,K h.tm (by decide),h.stm⟩
theorem NQ.ses{s:Nat}{now fine:Int}{l:List ky}{b:World}(h:NQ S g s L now fine w b n l)(i:Nat)(a:i<64)(c:ah (L.s i) b w'){d:cZ}(e:Blk w' (L.s i) (xX d) 245):NQ S g s L now fine w w' (n.upd i d) l:=by
 have T:aa S [245] false b w':=aa.cU c (h.n.s i a).1 (by simp) (h.n.s i a).2;exact⟨h.t.trans (T.mono (fun _ _ h=>h) (by simp) (fun h=>h)) (fun _ _ h=>h),h.n.S9 i a c e,h.s.nr T (by decide) (by decide)⟩
end
theorem Rx(n:NodeD)(now fine:Int)(k:Int)(h:nextF (n.t.all.map (·.node)) n.asked=(k,false)):n.poll now fine=(n,[]):=by
 unfold NodeD.poll;rw[h];rfl
theorem O9(n:NodeD)(now fine:Int)(k:Int)(h:nextF (n.t.all.map (·.node)) n.asked=(k,true))(a:NodeD)(m:Int)(b:Bool)(o:List ky)(c:NodeD.send {n with asked:=k} now fine {fr0 2 with dst:=k}=(a,(m,b),o)):n.poll now fine=if b then (a.upd k.toNat ((a.s k.toNat).poll fine m),o) else (a,o):=by
 unfold NodeD.poll;rw[h];simp only[Bool.true_eq_false,if_false,c]
section
variable {S:Nat->Prop} {w:World} {g:Nat} {L:NLay} {n:NodeD} {s:Nat} {now fine:Int} {l:List ky} (H:NodeAt S w g L n) (OK:bL n) (HS:uA S w s g now fine l)
include H OK HS
theorem Mn(hl:l.length<=1000):Calls prog 140 #[ptr g,ptr s] w fun e w'=>e=.returned (.tuple #[])/\NQ S g s L now fine w w' (n.poll now fine).1 (l++(n.poll now fine).2):=by
 obtain⟨d,f⟩:∃d,n.t.all.map (·.node)=d:=⟨_,rfl⟩;obtain⟨⟨k,b⟩,hr⟩:∃r,nextF d n.asked=r:=⟨_,rfl⟩;have b2:n.t.all.length<=64:=by have:=OK.t.len.1;simpa [cB.all] using this
 have q:d.length=n.t.all.length:=by rw[<-f,List.length_map]
 have HA:=Lh (Pn H OK);have HO:=Lh OK;have HQ:=Lh (NQ.refl H HS);have HR:=Lh hr;have HI:=Lh f;obtain⟨i0,hi,a5,a2,a1⟩:=info_parts J0
 have HN:Hid (∀i v,n.t.all[i]?=some v->d.take (i+1)=d.take i++[v.node]):=fun i v h=>by
  rw[<-f,List.take_add_one,List.getElem?_map,h];rfl
 obtain⟨-,-,-,-,-,-,-,-,-,a3,-,-,-,-,I,-,fz,yg⟩:=ca H.blk;clear H OK HS hr f;go_enter func140,ntmps140;go_wp2_with (go_at_call 27;refine(HA.out _ (Below.refl _ _)).mono ?_;rintro e w1 ⟨A,c,rfl,C,U⟩)
 have Q:=Lh C;have R:=Lh U;clear a3 I fz C U;go_loopw [4,17] (fun a i wr=>∃k:Nat,k<=n.t.all.length/\i=.int .i64 k/\Hid (wr.ownsRow w.heap.size 3 1 a k ((d.take k).map (Value.int .i64)))/\Hid (wr.ownsRow w.heap.size 99 10 (.slice A n.t.all.length c) n.t.all.length (n.t.all.flatMap nW))/\Hid (zB w wr)) (fun _ i _=>n.t.all.length-(intOf i).toNat)
 case atStart=>exact⟨0,by omega,rfl,⟨by simp,.inl ⟨rfl,rfl⟩⟩,Q.out,R.out⟩
 case round=>
  obtain⟨j,hj,rfl,P,F,y⟩:=hrel;by_cases a7:j<n.t.all.length
  ·obtain⟨v,hv⟩:∃v,n.t.all[j]?=some v:=⟨_,List.getElem?_eq_getElem a7⟩;obtain⟨gr,b1,b0,c0,b3,hc⟩:=EO F.out (k:=j) (x:=v) hv rfl;injection b0 with hv1 _ hv3
   subst hv1;subst hv3;have b7:(j:Int)<(n.t.all.length:Int):=by omega
   have a4:(0:Int)<=j:=by omega
   have hz:=y.out.size;have E:=Lh (HN.out j v hv);obtain⟨Z,x1,x2,x3,⟨e0,e1,e2,e3,e4⟩,x5⟩:=v;clear hv;obtain⟨N,B⟩:∃u,u=wr.alloc (Obj.cells (entC ⟨Z,x1,x2,x3,⟨e0,e1,e2,e3,e4⟩,x5⟩) 99):=⟨_,rfl⟩;have W:zB wr (N.alloc (Obj.cells #[Z] 3)):=by rw[B];exact((Below.refl _ _).alloc (Nat.le_refl _) _).alloc (by simp) _
   have J:=Lh (cv P.out W);have O:=Lh (cv F.out W);have a9:Hid (zB w (N.alloc (Obj.cells #[Z] 3))):=y.out.trans (W.mono hz);subst B;clear W
   go_wp2_with (first
    | (at_builtin;refine wpList_append_own _ rfl _ _ 120 rfl w.heap.size 3 i0 (.int .i64 0) 1 8 underlying120 hi a5 a2 a1 rfl (by decide) _ j _ rfl J.out ⟨wr.heap.size+1,0,none⟩ 1 1 [.int .i64 Z] rfl rfl (te (Blk.new' _ _ _ (by simp))) (JY _) (by unfold maxLen;omega) (by omega) (by simp;omega) ?_;intro v' w5 V p _))
   exact⟨⟨j+1,by omega,by go_num,by show World.ownsRow _ _ _ _ _ _ _;rw[E.out];simpa using V,Ho O.out p (Hp O.out J.out (by decide)),xE (Nat.le_refl _) a9.out p (xA J.out)⟩,by simp[intOf];omega⟩
  ·have b4:¬(j:Int)<(n.t.all.length:Int):=by omega
   obtain rfl:j=n.t.all.length:=by omega
   rw[<-q,List.take_length] at P;obtain⟨A2,c2,rfl,hI⟩:=KO P.out rfl;have a6:=Lh hI;rw[q] at P;have z:=Lh (HQ.out.below y.out)
   have G:Hid (Calls prog 188 #[.slice A2 n.t.all.length c2,.int .i64 n.asked] wr fun e w'=>e=.returned (.tuple #[k,b])/\w'=wr):=by
    have:=Pi A2 d c2 n.asked wr (by omega) hI;rw[HR.out,q] at this;exact this
   obtain⟨-,-,-,-,-,-,-,-,-,-,-,-,-,-,I,-,fz,b9⟩:=ca z.out.n.blk;clear hI P F y Q R HA;cases b with
   | false=>
    have Y:=Lh (Rx n now fine k (by rw[HI.out];exact HR.out));rw[q];go_wp2_with (go_at_call 188;refine G.out.mono ?_;rintro e w1 ⟨rfl,h⟩;have h9:=h.symm;subst h9)
    refine bodyPost_ret (results_none rfl _ _ _) rfl ?_;rw[Y.out];exact⟨rfl,by simpa using z.out⟩
   | true=>
    rw[q];go_wp2_with (go_at_call 188;refine G.out.mono ?_;rintro e w1 ⟨rfl,h⟩;have h9:=h.symm;subst h9)
    refine jj ?_;intro u hu;have X:Hid (NQ S g s L now fine w u {n with asked:=k} l):=by rw[hu];exact z.out.cell 83 _ (KA _ _ _) rfl rfl rfl rfl rfl rfl rfl
    have b8:=Te n.t HO.out.t n.t.all (fun _ h=>h) n.asked k (by rw[HI.out];exact HR.out);obtain⟨κ,rfl⟩:∃κ:Nat,k=κ:=⟨k.toNat,by omega⟩;have a0 : κ<64:=by omega
    obtain⟨⟨n2,⟨m,ok⟩,o⟩,hq⟩:∃r,NodeD.send {n with asked:=(κ:Int)} now fine {fr0 2 with dst:=(κ:Int)}=r:=⟨_,rfl⟩;have Y:=Lh (O9 n now fine κ (by rw[HI.out];exact HR.out) n2 m ok o hq);have T:Hid (Calls prog 138 #[ptr s,frV ({fr0 2 with dst:=(κ:Int)} : FrD)] u fun e w'=>e=.returned (.tuple #[m,ok])/\NQ S g s L now fine u w' n2 (l++o)):=Hm X.out.n (HO.out.asked _) X.out.s _ hl _ hq;clear hu I fz hq z G a6;refine T.out.mono ?_;rintro e w2 ⟨rfl,M⟩;have D:=Lh (X.out.trans M);clear M X T;cases ok with
    | false=>
     go_wp2_with fail;refine bodyPost_end (results_none rfl _ _ _) rfl ?_;rw[Y.out];exact⟨rfl,D.out⟩
    | true=>
     have a8:Hid (∀w',zB w2 w'->Calls prog 189 #[ptr (L.s κ),fine,m] w' fun e K=>e=.returned (.tuple #[])/\ah (L.s κ) w' K/\Blk K (L.s κ) (xX ((n2.s κ).poll fine m)) 245):=fun w' hb=>MX _ _ _ ((D.out.n.s κ a0).1.keep hb) fine m;have qs:=Iz D.out.n.blk κ a0;obtain⟨-,-,b6,sy⟩:=NQ.snd D.out.s;have fz:=D.out.n.blk.frozen;have hy:=D.out.n.blk.lt;have b5:(κ:Int)<64:=by omega
     have a4:(0:Int) <= κ:=by omega
     go_wp2_with fail;refine dv 11 (by kernel_rfl) (by kernel_rfl) ?_;simp only[List.take_succ_cons,List.take_zero,List.drop_succ_cons,List.drop_zero];(repeat still_step);(try refine wpStill_nil ?_);go_wp2_with fail;refine(a8.out _ (Below.refl _ _).drew).mono ?_;rintro e w3 ⟨rfl,hO,hB⟩;have NW:=Lh ((D.out.below (Below.refl _ _).drew).ses κ a0 hO hB);go_wp2_with fail;refine bodyPost_end (results_none rfl _ _ _) rfl ?_;rw[Y.out];exact⟨rfl,NW.out⟩
end
def QH(n n2:NodeD)(now fine:Int)(o:List ky):Prop:=
 ∀(S:Nat->Prop) (w:World) (g:Nat) (L:NLay),NodeAt S w g L n->Calls Tryz.prog 67 #[ptr g,now,fine] w fun e w'=>∃v,e=.returned v/\bg S w w'/\(∃L',NodeAt (Sn S w) w' g L' n2)/\w'.ownsRow 0 195 16 v o.length (o.flatMap Cj)/\∀b,v.ownBlock=some b->Sn S w b
def MB(n n2:NodeD)(l:List Nat)(at_ now fine:Int)(o:List ky):Prop:=
 ∀(S:Nat->Prop) (w:World) (g:Nat) (L:NLay) (v:Value),NodeAt S w g L n->(∀k,w.heap.size<=k->S k)->RdB w v l->Calls Tryz.prog 146 #[ptr g,v,at_,now,fine] w fun e w'=>
  ∃vo k,e=.returned (.tuple #[vo,k])/\bg S w w'/\(∃L2,NodeAt S w' g L2 n2)/\w'.ownsRow 0 195 16 vo o.length (o.flatMap Cj)/\∀b,vo.ownBlock=some b->S b
def node1(n:NodeD)(now:Int):NodeD:={n with b:=⟨n.b.n,n.b.n⟩,t:=n.t.tx now n.c.silent,tm:=(n.tm.due now).1}
def firstF(n:NodeD):FrD:=if n.fv then Un n.fe else fr0 1
theorem Ci(n:NodeD)(a fine:Int)(f:FrD):(n.send a fine f).2.2.length<=1:=by
 unfold NodeD.send;split<;>simp
theorem dA.sub{t:cB}(h:dA t)(p:Int×EntD->Bool):dA {t with ents:=t.ents.filter p}:=
 ⟨h.most,fun q a=>h.ents q (List.mem_filter.1 a).1,h.lives,List.Pairwise.filter _ h.asc,h.lasc⟩
theorem E5{n:NodeD}(h:bL n)(now:Int):bL (node1 n now):=by
 refine⟨h.c,h.id,h.boot,h.seq,h.bad,h.t.sub _,⟨h.b.2.2.1,h.b.2.2.2,h.b.2.2⟩,?_,h.fe⟩;show 1<=(n.tm.due now).1.every/\(n.tm.due now).1.every<=1000000;unfold Cf.due;split<;>exact h.tm
theorem D6(n:NodeD)(now fine:Int)(b:cA now=true)(d:(n.tm.due now).2=true)(a:NodeD×(Int×Bool)×List ky)(c:(node1 n now).send now fine (firstF n)=a):n.tick now fine=(((a.1.tell now fine).1.poll now fine).1,a.2.2++(a.1.tell now fine).2++((a.1.tell now fine).1.poll now fine).2):=by
 subst c;unfold NodeD.tick;rw[if_neg (by rw[b];decide)];simp only[d,Bool.true_eq_false,if_false];rfl
theorem Km(n:NodeD)(now fine:Int):(n.tell now fine).2.length<=1:=by
 unfold NodeD.tell;simp only;split
 ·simp
 ·split
  ·exact Ci _ _ _ _
  ·simp
theorem Pa(n:NodeD)(now fine:Int):(n.poll now fine).2.length<=1:=by
 unfold NodeD.poll;simp only;split
 ·simp
 ·split<;>exact Ci _ _ _ _
section
variable {S:Nat->Prop} {w:World} {g:Nat} {L:NLay} {n:NodeD} {now fine:Int} (H:NodeAt S w g L n) (OK:bL n)
include H OK
theorem Tt(hn:cA now=true)(hd:(n.tm.due now).2=true):Calls Tryz.prog 67 #[ptr g,now,fine] w fun e w'=>∃v B,e=.returned v/\bg S w w'/\(∃L',NodeAt (Sn S w) w' g L' (n.tick now fine).1)/\w'.ownsRow B 195 16 v (n.tick now fine).2.length ((n.tick now fine).2.flatMap Cj)/\∀k,B<=k->Sn S w k:=by
 have R:0<=now/\now<=1000000:=by simpa [cA] using hn
 have hc:=Af n.c OK.c;obtain⟨E,z⟩:∃q,(node1 n now).send now fine (firstF n)=q:=⟨_,rfl⟩;obtain⟨T,p⟩:∃q,E.1.tell now fine=q:=⟨_,rfl⟩;obtain⟨q3,G⟩:∃q,T.1.poll now fine=q:=⟨_,rfl⟩;have EV:Hid (n.tick now fine=(q3.1,E.2.2++T.2++q3.2)):=by show _=_;rw[D6 n now fine hn hd E z,p,G]
 have l1:E.2.2.length<=1:=by rw[<-z];exact Ci _ _ _ _
 have l2:T.2.length<=1:=by rw[<-p];exact Km _ _ _
 have F:(E.2.2++T.2).length<=1000:=by rw[List.length_append];omega
 have K1:=Lh (E5 OK now);have K2:Hid (bL E.1):=by show bL _;rw[<-z];exact(E5 OK now).send _ _ _
 have K3:Hid (bL T.1):=by show bL _;rw[<-p];exact K2.out.tell _ _
 have HH:=Lh H;have HO:=Lh OK;have HN:=Lh hn;have U:=Lh R;have HD:Hid (n.tm.due now=((n.tm.due now).1,true)):=by show _=_;rw[<-hd]
 have HC:=Lh hc;have P:=Lh z;have a0:=Lh p;have a1:=Lh G;have HE:Hid (n.fv=true->firstF n=Un n.fe):=fun h=>by unfold firstF;rw[if_pos h]
 have HF:Hid (n.fv=false->firstF n=fr0 1):=fun h=>by unfold firstF;rw[if_neg (by rw[h];decide)]
 obtain⟨-,-,-,-,-,y,-,-,j,i,l,m,-,-,-,-,fz,yg⟩:=ca H.blk;clear H OK hn R hd hc z p G;go_enter Tryz.func67,Tryz.ntmps67
 go_wp2_with (first
  | (go_at_call 134;refine(JS _ HN.out _).mono ?_;rintro e Q ⟨rfl,h⟩;have h9:=h.symm;subst h9)
  | (go_at_call 135;refine(Jz L.b w n.b HH.out.b).mono ?_;rintro e Q ⟨rfl,C,hB⟩))
 have N1:=Lh (HH.out.OQ C hB);have T1:Hid (bg S w Q):=bg.cU C (.inl HH.out.sb);clear C hB y j i l m fz yg;obtain⟨-,-,-,-,-,y,-,-,j,i,l,m,-,-,-,-,fz,yg⟩:=ca N1.out.blk;refine dv 10 (by kernel_rfl) (by kernel_rfl) ?_;simp only[List.take_succ_cons,List.take_zero,List.drop_succ_cons,List.drop_zero];(repeat still_step);(try refine wpStill_nil ?_)
 go_wp2_with (first
  | (go_at_call 136;refine(It (N1.out.t.below (w':=Q.drew) (Below.refl _ _).drew) HO.out.t now n.c.silent U.out ⟨HC.out.1,by have:=HC.out.2.1;omega⟩).mono ?_;rintro e w2 ⟨⟨ve,rfl⟩,C,hT⟩;have hD:=aa.of_map (ty:=[375]) (N1.out.t.below (w':=Q.drew) (Below.refl _ _).drew) C;have N2:=Lh ((N1.out.below (w':=Q.drew) (Below.refl _ _).drew).Kr hD hT);have T2:Hid (bg S w w2):=bg.trans (bg.drew T1.out) hD.turns (fun _ _ a=>a);clear C hT hD y j i l m fz yg;obtain⟨-,-,-,-,-,y,-,-,j,i,l,m,-,-,-,-,fz,yg⟩:=ca N2.out.blk)
  | (go_at_call 137;refine(Tm L.tm _ n.tm (n.tm.due now).1 true now HD.out (by have:=HO.out.tm.1;omega) HO.out.tm.2 U.out.1 N2.out.tm).mono ?_;rintro e Y ⟨rfl,C,hB⟩;have N3:=Lh (N2.out.OO C hB);have T3:Hid (bg S w Y):=T2.out.gZ C (.inl HH.out.stm);clear C hB y j i l m fz yg;obtain⟨-,-,-,-,-,y,-,-,j,i,l,m,-,-,-,-,fz,yg⟩:=ca N3.out.blk))
 refine jj ?_;intro u hu;have A3:zB Y u:=by rw[hu];exact(Below.refl _ _).alloc (Nat.le_refl _) _
 have N:Hid (bg S w u):=T3.out.wg A3;obtain⟨O,X,V⟩:∃O:NLay,O.f=L.f/\NodeAt (Sn S w) u g O (node1 n now):=⟨_,rfl,MM rfl N3.out A3⟩;have K:=Lh V;have S4:Hid (uA (Sn S w) u Y.heap.size g now fine []):=⟨⟨.slice none 0 0,w.heap.size,by rw[hu];exact Blk.new Y _ _,⟨rfl,.inl ⟨rfl,rfl⟩⟩,N.out.size,fun k J=>.inr J⟩,.inr T3.out.size⟩;clear hu A3 N3 T3 V y j i l m fz yg;obtain⟨s,hs⟩:∃s,Y.heap.size=s:=⟨_,rfl⟩;rw[hs] at S4 ⊢;rw[<-X];clear X;have zs:w.heap.size<=u.heap.size:=N.out.size;cases hv:n.fv with
 | true=>
  have a2:=Lh (HE.out hv);refine(JG O.f n.cap n.fv n.fe _ true hv K.out.f).mono ?_;rintro e w4 ⟨rfl,o⟩;have M:=Lh (K.out.below o);have S5:=Lh (S4.out.nr (aa.of_below (S:=S) (ty:=[]) (mp:=false) o) (by simp) (by simp));have T5:=Lh (N.out.wg o);clear o K S4 N;obtain⟨-,-,-,-,-,y,-,-,j,i,l,m,-,-,-,-,fz,yg⟩:=ca M.out.blk;go_wp2_with (first
  | (go_at_call 26;refine(Vb O.f n.cap n.fv n.fe n.fe w4 rfl M.out.f).mono ?_;rintro e w5 ⟨rfl,D⟩;have N6:=Lh (M.out.below D);have S6:=Lh (S5.out.nr (aa.of_below (S:=S) (ty:=[]) (mp:=false) D) (by simp) (by simp));replace T5:=Lh (T5.out.wg D);clear D)
  | (go_at_call 138;refine(Hm N6.out K1.out S6.out (Un n.fe) (by simp) E (by rw[<-a2.out];exact P.out)).mono ?_;rintro e w6 ⟨rfl,d⟩;rw[List.nil_append] at d;have W:=Lh d;have T6:Hid (bg S w w6):=T5.out.trans d.t.turns (fun k J h=>h.elim id (fun h2=>by omega));clear d y j i l m fz yg)
  | (go_at_call 139;refine(Ml W.out.n K2.out W.out.s (Nat.le_trans l1 (by decide))).mono ?_;rintro e w7 ⟨rfl,d⟩;rw[a0.out] at d;have M7:=Lh d;have T7:Hid (bg S w w7):=T6.out.trans d.t.turns (fun k J h=>h.elim id (fun h2=>by omega));clear d)
  | (go_at_call 140;refine(Mn M7.out.n K3.out M7.out.s F).mono ?_;rintro e w8 ⟨rfl,d⟩;rw[a1.out] at d;have Z:=Lh d;have T8:Hid (bg S w w8):=T7.out.trans d.t.turns (fun k J h=>h.elim id (fun h2=>by omega));clear d;obtain⟨v9,B9,x,r,I,A⟩:=Z.out.s.ex;obtain⟨y9,c9,f9,-⟩:=cz x;have R9:=Lh r;have P9:=Lh A;clear x r A I))
  go_ret;rw[EV.out];exact⟨v9,B9,rfl,T8.out,⟨_,Z.out.n⟩,R9.out,P9.out⟩
 | false=>
  have a3:=Lh (HF.out hv);refine(JG O.f n.cap n.fv n.fe _ false hv K.out.f).mono ?_;rintro e w4 ⟨rfl,o⟩;have M:=Lh (K.out.below o);have S5:=Lh (S4.out.nr (aa.of_below (S:=S) (ty:=[]) (mp:=false) o) (by simp) (by simp));have T5:=Lh (N.out.wg o);clear o K S4 N;obtain⟨-,-,-,-,-,y,-,-,j,i,l,m,-,-,-,-,fz,yg⟩:=ca M.out.blk;go_wp2_with (first
  | (go_at_call 138;refine(Hm M.out K1.out S5.out (fr0 1) (by simp) E (by rw[<-a3.out];exact P.out)).mono ?_;rintro e w6 ⟨rfl,d⟩;rw[List.nil_append] at d;have W:=Lh d;have T6:Hid (bg S w w6):=T5.out.trans d.t.turns (fun k J h=>h.elim id (fun h2=>by omega));clear d y j i l m fz yg)
  | (go_at_call 139;refine(Ml W.out.n K2.out W.out.s (Nat.le_trans l1 (by decide))).mono ?_;rintro e w7 ⟨rfl,d⟩;rw[a0.out] at d;have M7:=Lh d;have T7:Hid (bg S w w7):=T6.out.trans d.t.turns (fun k J h=>h.elim id (fun h2=>by omega));clear d)
  | (go_at_call 140;refine(Mn M7.out.n K3.out M7.out.s F).mono ?_;rintro e w8 ⟨rfl,d⟩;rw[a1.out] at d;have Z:=Lh d;have T8:Hid (bg S w w8):=T7.out.trans d.t.turns (fun k J h=>h.elim id (fun h2=>by omega));clear d;obtain⟨v9,B9,x,r,I,A⟩:=Z.out.s.ex;obtain⟨y9,c9,f9,-⟩:=cz x;have R9:=Lh r;have P9:=Lh A;clear x r A I))
  go_ret;rw[EV.out];exact⟨v9,B9,rfl,T8.out,⟨_,Z.out.n⟩,R9.out,P9.out⟩
end
theorem QR(n:NodeD)(now fine:Int)(OK:bL n)(d:cA now=true):QH n (n.tick now fine).1 now fine (n.tick now fine).2:=by
 intro S w g L H;by_cases a:(n.tm.due now).2=true
 ·refine(Tt H OK d a).mono ?_;rintro e j ⟨v,B,rfl,c,f,i,l⟩;exact⟨v,rfl,c,f,Ku i,fun b h=>l b (xA i b h)⟩
 ·have a:(n.tm.due now).2=false:=by simpa using a
  have e:n.tick now fine=(node1 n now,[]):=by
   unfold NodeD.tick;rw[if_neg (by rw[d];decide)];simp only[a,if_true];rfl
  rw[e];refine(MP H OK d (n.tm.due now).1 (by rw[<-a])).mono ?_;rintro e j ⟨rfl,c,o,f⟩;exact⟨_,rfl,c,⟨_,f.mono (fun k _ m=>.inl m)⟩,⟨rfl,.inl ⟨rfl,rfl⟩⟩,fun b h=>by cases h⟩
theorem Hy{n:NodeD}(OK:bL n)(now fine:Int):bL (n.tick now fine).1:=by
 by_cases b:cA now=true
 ·by_cases a:(n.tm.due now).2=true
  ·rw[D6 n now fine b a _ rfl];exact(((E5 OK now).send _ _ _).tell _ _).poll _ _
  ·have a:(n.tm.due now).2=false:=by simpa using a
   have e:n.tick now fine=(node1 n now,[]):=by
    unfold NodeD.tick;rw[if_neg (by rw[b];decide)];simp only[a,if_true];rfl
   rw[e];exact E5 OK now
 ·unfold NodeD.tick;rw[if_pos (by simpa using b)];exact OK
def Ad(a b:Int):Int:=if a<b then -1 else if b<a then 1 else 0
def cmpE(x y:EntD):Int:=if Ad x.heard y.heard=0 then Ad x.node y.node else Ad x.heard y.heard
def Uo(m y:EntD):EntD:=if y.heard<m.heard∨y.heard=m.heard/\y.node<m.node then y else m
theorem SF(y m:EntD):decide (cmpE y m<0)=decide (y.heard<m.heard∨y.heard=m.heard/\y.node<m.node):=by
 congr 1
 unfold cmpE Ad;split<;>(try split at *)<;>(try split at *)<;>simp<;>omega
theorem Sv(y m:EntD):Uo m y=if cmpE y m<0 then y else m:=by
 have:=SF y m;unfold Uo;by_cases h:y.heard<m.heard∨y.heard=m.heard/\y.node<m.node
 ·rw[if_pos h];rw[if_pos];simpa [h] using this
 ·rw[if_neg h];rw[if_neg];simpa [h] using this
theorem SH(a b:Int)(w:World):Calls prog 308 #[a,b] w fun e d=>e=.returned (.int .i64 (Ad a b))/\d=w:=by
 rcases Int.lt_trichotomy a b with h|h|h
 ·have c:Hid (Ad a b=-1):=by show _=_;unfold Ad;rw[if_pos h]
  go_enter func308,ntmps308;go_wp2
  go_ret;exact⟨by rw[c.out]<;>rfl,rfl⟩
 ·subst h;have c:Hid (Ad a a=0):=by show _=_;unfold Ad;rw[if_neg (by omega),if_neg (by omega)]
  go_enter func308,ntmps308;go_wp2
  go_ret;exact⟨by rw[c.out]<;>rfl,rfl⟩
 ·have c:Hid (Ad a b=1):=by show _=_;unfold Ad;rw[if_neg (by omega),if_pos h]
  have f:¬a<b:=by omega
  go_enter func308,ntmps308;go_wp2
  go_ret;exact⟨by rw[c.out]<;>rfl,rfl⟩
theorem Qn(a b:Int)(w:World):Calls prog 309 #[a,b] w fun e d=>e=.returned (.int .i64 (Ad a b))/\d=w:=by
 rcases Int.lt_trichotomy a b with h|h|h
 ·have c:Hid (Ad a b=-1):=by show _=_;unfold Ad;rw[if_pos h]
  go_enter func309,ntmps309;go_wp2
  go_ret;exact⟨by rw[c.out]<;>rfl,rfl⟩
 ·subst h;have c:Hid (Ad a a=0):=by show _=_;unfold Ad;rw[if_neg (by omega),if_neg (by omega)]
  go_enter func309,ntmps309;go_wp2
  go_ret;exact⟨by rw[c.out]<;>rfl,rfl⟩
 ·have c:Hid (Ad a b=1):=by show _=_;unfold Ad;rw[if_neg (by omega),if_pos h]
  have f:¬a<b:=by omega
  go_enter func309,ntmps309;go_wp2
  go_ret;exact⟨by rw[c.out]<;>rfl,rfl⟩
theorem SE(g:Nat)(a b:Int)(w:World)(h:Blk w g #[a,b] 3):Calls prog 307 #[.slice (some ⟨g,0,none⟩) 2 2] w fun e m=>e=.returned (.int .i64 (if a=0 then b else a))/\m=w:=by
 obtain⟨q,p,s,-⟩:=cz h;clear h;go_enter func307,ntmps307;go_wp2_with fail;go_loop [5,8] (fun v i=>∃k:Nat,k<=2/\i=.int .i64 k/\(1<=k->a=0)/\(2<=k->b=0)) (fun _ i=>2-(intOf i).toNat)
 case atStart=>exact⟨0,by omega,rfl,fun h=>by omega,fun h=>by omega⟩
 case round=>
  obtain⟨k,r,rfl,c,d⟩:=hrel;have f:k=0∨k=1∨k=2:=by omega
  rcases f with rfl|rfl|rfl
  ·by_cases j:a=0
   ·subst j;clear c d;go_wp2_with fail;go_round
    case rel=>refine⟨1,by omega,by go_num,?_,?_⟩<;>first|trivial|(intro h;first|rfl|trivial|omega)
    case measure=>exact(by first|(simp[intOf];done)|(simp[intOf];omega))
   ·have o:(a==0)=false:=by simp[j]
    clear c d;go_wp2_with fail;go_ret;exact⟨by simp[j],rfl⟩
  ·obtain rfl:=c (by omega);by_cases l:b=0
   ·subst l;clear c d;go_wp2_with fail;go_round
    case rel=>refine⟨2,by omega,by go_num,?_,?_⟩<;>first|trivial|(intro h;first|rfl|trivial|omega)
    case measure=>exact(by first|(simp[intOf];done)|(simp[intOf];omega))
   ·have n:(b==0)=false:=by simp[l]
    clear c d;go_wp2_with fail;go_ret;exact⟨by simp,rfl⟩
  ·obtain rfl:=c (by omega);obtain rfl:=d (by omega);clear c d;go_wp2_with fail;go_ret;exact⟨by simp,rfl⟩
theorem SD(g:Nat)(a b k:Int)(d:(if a=0 then b else a)=k)(w:World)(h:Blk w g #[a,b] 3):Calls prog 307 #[.slice (some ⟨g,0,none⟩) 2 2] w fun e c=>e=.returned (.int .i64 k)/\c=w:=by
 subst d;exact SE g a b w h
theorem P7(x y:EntD)(w:World):zR 306 #[kx x,kx y] w (.int .i64 (cmpE x y)):=by
 obtain⟨r,b⟩:∃r,cmpE x y=r:=⟨_,rfl⟩;rw[b];have j:Hid ((if Ad x.heard y.heard=0 then Ad x.node y.node else Ad x.heard y.heard)=r):=b;clear b;obtain⟨c,n,f,D,⟨k,m,v,u,s⟩,l⟩:=x;obtain⟨g,t,i,B,⟨C,q,A,z,o⟩,p⟩:=y;simp only at j;go_enter func306,ntmps306;go_wp2_with fail
 go_region_held3 (fun w'=>w'.cell? ⟨w.heap.size,0,none⟩=some (.int .i64 c)/\w'.cell? ⟨w.heap.size,2,none⟩=some (.int .i64 f)/\w'.cell? ⟨w.heap.size+1,0,none⟩=some (.int .i64 g)/\w'.cell? ⟨w.heap.size+1,2,none⟩=some (.int .i64 i)) (go_simp)
  (first
  | (go_at_call 308;refine(SH _ _ _).mono ?_;rintro e d ⟨rfl,h⟩;have a:=h.symm;subst a)
  | (go_at_call 309;refine(Qn _ _ _).mono ?_;rintro e d ⟨rfl,h⟩;have a:=h.symm;subst a)
  | (go_at_call 307;refine(SD _ (Ad f i) (Ad c g) r j.out _ ?hb).mono ?_;(case hb=>exact Blk.new' _ _ _ (by first|(simp;done)|(simp;omega)));rintro e d ⟨rfl,h⟩;have a:=h.symm;subst a))
 all_goals go_wp2_with fail
 all_goals go_ret
 all_goals exact⟨rfl,ad⟩
theorem Le{w:World}{b:Nat}{t:TypeId}{k e d c a c0 c1 c2 c3 c4:Value}(h:Blk w b #[k,e,d,c,a] t):Blk (((((w.setCell ⟨b,0,none⟩ c0).setCell ⟨b,1,none⟩ c1).setCell ⟨b,2,none⟩ c2).setCell ⟨b,3,none⟩ c3).setCell ⟨b,4,none⟩ c4) b #[c0,c1,c2,c3,c4] t:=by
 have j:Blk _ b #[c0,e,d,c,a] t:=h.ab 0 c0;have i:Blk _ b #[c0,c1,d,c,a] t:=j.ab 1 c1;have f:Blk _ b #[c0,c1,c2,c,a] t:=i.ab 2 c2;have g:Blk _ b #[c0,c1,c2,c3,a] t:=f.ab 3 c3;have l:Blk _ b #[c0,c1,c2,c3,c4] t:=g.ab 4 c4;exact l
theorem JB{w:World}{b:Nat}{t:TypeId}{G v u r q o l j g f a c d e i k m n p s:Value}(h:Blk w b #[G,v,u,r,q,o,l,j,g,f] t):Blk ((((((((((w.setCell ⟨b,0,none⟩ a).setCell ⟨b,1,none⟩ c).setCell ⟨b,2,none⟩ d).setCell ⟨b,3,none⟩ e).setCell ⟨b,4,none⟩ i).setCell ⟨b,5,none⟩ k).setCell ⟨b,6,none⟩ m).setCell ⟨b,7,none⟩ n).setCell ⟨b,8,none⟩ p).setCell ⟨b,9,none⟩ s) b #[a,c,d,e,i,k,m,n,p,s] t:=by
 have F:Blk _ b #[a,v,u,r,q,o,l,j,g,f] t:=h.ab 0 a;have C:Blk _ b #[a,c,u,r,q,o,l,j,g,f] t:=F.ab 1 c;have x:Blk _ b #[a,c,d,r,q,o,l,j,g,f] t:=C.ab 2 d;have y:Blk _ b #[a,c,d,e,q,o,l,j,g,f] t:=x.ab 3 e;have H:Blk _ b #[a,c,d,e,i,o,l,j,g,f] t:=y.ab 4 i;have z:Blk _ b #[a,c,d,e,i,k,l,j,g,f] t:=H.ab 5 k;have A:Blk _ b #[a,c,d,e,i,k,m,j,g,f] t:=z.ab 6 m;have B:Blk _ b #[a,c,d,e,i,k,m,n,g,f] t:=A.ab 7 n;have D:Blk _ b #[a,c,d,e,i,k,m,n,p,f] t:=B.ab 8 p;have E:Blk _ b #[a,c,d,e,i,k,m,n,p,s] t:=D.ab 9 s;exact E
theorem LY(l:List EntD)(k:Nat)(v:EntD)(b:0<k)(h:l[k]?=some v):elderF (l.take (k+1))=Uo (elderF (l.take k)) v:=by
 have a:=(List.getElem?_eq_some_iff.1 h).1;have e:l.take (k+1)=l.take k++[v]:=by rw[List.take_add_one,h];rfl
 rw[e];cases hl:l.take k with
 | nil=>
  have:=congrArg List.length hl;simp only[List.length_take,List.length_nil] at this;omega
 | cons x r=>simp only[List.cons_append,elderF,List.foldl_append];rfl
theorem Nq(l:List EntD)(B:Nat)(Y:Option Addr)(A:Nat)(w:World)(h1:1<=l.length)(hl:l.length<=64)(p:w.ownsRow B 99 10 (.slice Y l.length A) l.length (l.flatMap nW)):zR 305 #[.slice Y l.length A,.func (.func 306) #[] #[]] w (kx (elderF l)):=by
 have HR:=Lh p;obtain⟨z,d⟩:∃v,l[0]?=some v:=⟨_,List.getElem?_eq_getElem (by omega)⟩
 have E1:Hid (elderF (l.take 1)=z):=by
  show _=_;cases l with
  | nil=>cases d
  | cons x r=>simp at d;subst d;rfl
 obtain⟨gr,Z,s,b2,a3,hc⟩:=EO p (k:=0) (x:=z) d rfl;injection s with hv1 _ hv3
 subst hv1;subst hv3;have b1:(l.length:Int)<=9223372036854775807:=by omega
 have a4:¬(l.length:Int)<1:=by omega
 have a6:(0:Int)<(l.length:Int):=by omega
 obtain⟨x0,x1,x2,x3,⟨e0,e1,e2,e3,e4⟩,x5⟩:=z;clear p d;go_enter func305,ntmps305;go_wp2_with fail;go_loopw [6] (fun i wr=>∃k:Nat,1<=k/\k<=l.length/\i=.int .i64 k/\Hid (zB w wr)/\Hid (Blk wr (w.heap.size+1) (entC (elderF (l.take k))) 99)/\Hid (Blk wr w.heap.size (entC .zero) 99)) (fun i _=>l.length-(intOf i).toNat)
 case atStart=>exact⟨1,by omega,by omega,rfl,(show Below _ _ _ from ad),(by show Blk _ _ _ _;rw[E1.out];exact Blk.new' _ _ _ (by simp)),(show Blk _ _ _ _ from(Blk.new _ _ _).alloc _)⟩
 case round=>
  obtain⟨k,a7,hk,rfl,P,c,u⟩:=hrel;have N:=Lh (cv HR.out (w':=wr) (P.out));by_cases Q:k<l.length
  ·obtain⟨v,O⟩:∃v,l[k]?=some v:=⟨_,List.getElem?_eq_getElem Q⟩;obtain⟨b0,a2,s,a1,a0,a9⟩:=EO N.out (k:=k) (x:=v) O rfl;injection s with hv1 _ hv3
   injection hv1 with hv1
   injection hv1 with hv1
   subst hv1;subst hv3;have h:=LY l k v (by omega) O;obtain⟨m,y⟩:∃m,elderF (l.take k)=m:=⟨_,rfl⟩;rw[y] at c h;rw[Sv] at h;obtain⟨r,p⟩:∃r,cmpE v m=r:=⟨_,rfl⟩;rw[p] at h;have X:Hid (∀t,zR 306 #[kx v,kx m] t (.int .i64 r)):=fun t=>by have:=P7 v m t;rw[p] at this;exact this
   have k1:(k:Int)<(l.length:Int):=by omega
   have k2:(0:Int)<=(k:Int):=by omega
   have hz:=P.out.size;have a8:gr<wr.heap.size:=by omega
   obtain⟨z,v1,v2,T,⟨f0,f1,W,U,f4⟩,V⟩:=v;obtain⟨D,M,E,K,⟨J,G,F,H,L⟩,I⟩:=m;obtain⟨z1,z2,z3,z4⟩:=cz c.out;have R:=c.out.row?_all 10 rfl;clear O y p hc;by_cases n:r<0
   ·rw[if_pos n] at h;have h:=Lh h;go_wp2_with fail
    go_region_held3 (fun w'=>w'.row? gr (k*10) 10=some (entC ⟨z,v1,v2,T,⟨f0,f1,W,U,f4⟩,V⟩)/\w'.row? (w.heap.size+1) 0 10=some (entC ⟨D,M,E,K,⟨J,G,F,H,L⟩,I⟩)) (go_simp)
     (first|(go_at_call 306;refine(X.out _).mono ?_;rintro e t ⟨rfl,a⟩;have f:=a.size;(try simp at f);have j:=bq a (gr);have b:=Lh (Blk.keep (by first|exact c.out|exact c.out.drew) a);have C:=b.out.row?_all 10 rfl;have q:=Lh (Blk.keep (by first|exact u.out|exact u.out.drew) a)))
    all_goals (have o:=a.size;simp at o;obtain⟨z5,S,z7,z8⟩:=cz b.out)
    all_goals go_wp2_with fail
    go_roundw
    case measure=>exact(by first|(simp[intOf];done)|(simp[intOf];omega))
    case rel=>
     refine⟨k+1,by omega,by omega,by go_num,?_,?_,?_⟩
     ·show Below _ _ _;exact ad
     ·show Blk _ _ _ _;rw[h.out];exact JB b.out
     ·show Blk _ _ _ _;exact ah.blk (g:=w.heap.size+1) (show ah _ t _ from dY) (q.out) (by omega)
   ·rw[if_neg n] at h;have h:=Lh h;go_wp2_with fail
    go_region_held3 (fun w'=>w'.row? gr (k*10) 10=some (entC ⟨z,v1,v2,T,⟨f0,f1,W,U,f4⟩,V⟩)/\w'.row? (w.heap.size+1) 0 10=some (entC ⟨D,M,E,K,⟨J,G,F,H,L⟩,I⟩)) (go_simp)
     (first|(go_at_call 306;refine(X.out _).mono ?_;rintro e t ⟨rfl,a⟩;have f:=a.size;(try simp at f);have j:=bq a (gr);have b:=Lh (Blk.keep (by first|exact c.out|exact c.out.drew) a);have C:=b.out.row?_all 10 rfl;have q:=Lh (Blk.keep (by first|exact u.out|exact u.out.drew) a)))
    all_goals (have o:=a.size;simp at o;obtain⟨z5,S,z7,z8⟩:=cz b.out)
    all_goals go_wp2_with fail
    go_roundw
    case measure=>exact(by first|(simp[intOf];done)|(simp[intOf];omega))
    case rel=>exact⟨k+1,by omega,by omega,by go_num,(show Below _ _ _ from ad),(by show Blk _ _ _ _;rw[h.out];exact b.out),q.out⟩
  ·have a5:¬(k:Int)<(l.length:Int):=by omega
   obtain rfl:k=l.length:=by omega
   rw[List.take_length] at c;obtain⟨m,y⟩:∃m,elderF l=m:=⟨_,rfl⟩;have EM:=Lh y;rw[y] at c;obtain⟨D,M,E,K,⟨J,G,F,H,L⟩,I⟩:=m;obtain⟨z1,z2,z3,z4⟩:=cz c.out;obtain⟨z5,S,z7,z8⟩:=cz u.out;have R:=c.out.row?_all 10 rfl;have hz:=P.out.size;clear y hc;go_wp2_with fail;rw[EM.out];exact ak 10 #[.int .i64 D,.int .i64 M,.int .i64 E,.bool K,.int .i64 J,.int .i64 G,.int .i64 F,.int .i64 H,.int .i64 L,.int .i64 I] rfl rfl rfl underlying99 rfl (by kernel_rfl) (Blk.row?_all (JB u.out) 10 rfl) ⟨rfl,ad⟩
theorem Su{S:Nat->Prop}{w:World}{g:Nat}{L:Ah}{t:cB}(H:dR S w g L t)(h:dA t)(z:1<=t.ents.length):zR 256 #[.pointer (some ⟨g,0,none⟩)] w (.int .i64 (elderF t.all).node):=by
 have I:=h.len.1;have k:t.all.length=t.ents.length:=by simp[cB.all]
 have p:Hid (∀a,zB w a->Calls prog 27 #[.pointer (some ⟨g,0,none⟩)] a fun e i=>∃A c,e=.returned (.slice A t.all.length c)/\i.ownsRow a.heap.size 99 10 (.slice A t.all.length c) t.all.length (t.all.flatMap nW)/\zB a i):=by
  intro a G;refine(EE (H.below G) h).mono ?_;rintro K i ⟨v,rfl,f,-,b⟩;obtain⟨A,c,rfl⟩:=kh f;rw[k];exact⟨A,c,rfl,f,b⟩
 have n:Hid (∀B A c a,a.ownsRow B 99 10 (.slice A t.all.length c) t.all.length (t.all.flatMap nW)->zR 305 #[.slice A t.all.length c,.func (.func 306) #[] #[]] a (kx (elderF t.all))):=fun B A c a f=>Nq t.all B A c a (by omega) (by omega) f;obtain⟨m,o⟩:∃m,elderF t.all=m:=⟨_,rfl⟩;rw[o] at n ⊢;obtain⟨l,u,y,F,⟨E,r,C,s,q⟩,D⟩:=m;have x:∀w,Sem.run prog (Instr.field 99 (kx ⟨l,u,y,F,⟨E,r,C,s,q⟩,D⟩) 0) w=.ok (.int .i64 l) w:=fun w=>rfl;clear H h o z I k;go_enter func256,ntmps256
 go_wp2_with (first
  | (go_at_call 27;refine(p.out _ (Below.refl _ _)).mono ?_;rintro e a ⟨A,c,rfl,d,j⟩;have J:=j.size)
  | (go_at_call 305;refine(n.out _ A c _ d).mono ?_;rintro e M ⟨rfl,b⟩))
 go_ret;exact⟨rfl,ad⟩
theorem Ls{n:NodeD}{k a:Int}(h:lk n.t.ents k=none):n.track k a=(.zero,false):=by unfold NodeD.track;rw [h]
theorem Lr{n:NodeD}{k a:Int}{x:EntD}(h:lk n.t.ents k=some x):n.track k a=if x.has then ((n.at x.e x.when a).1,decide ((n.at x.e x.when a).2=0)) else (.zero,false):=by unfold NodeD.track;rw [h]
section
variable {S:Nat->Prop} {w:World} {g:Nat} {L:NLay} {n:NodeD} (H:NodeAt S w g L n)
include H
theorem Kz(k now:Int)(l : -9223372036854775808<=k/\k<=9223372036854775807)(E I P M J:Int)(C:Bool)(h:n.track k now=(⟨E,I,P,M,J⟩,C)):zR 46 #[ptr g,k,now] w (.tuple #[elC E I P M J,C]):=by
 cases hl:lk n.t.ents k with
 | none=>
  rw[Ls hl] at h;injection h with h1 h2
  injection h1 with h11 h12 h13 h14 h15
  subst h11;subst h12;subst h13;subst h14;subst h15;subst h2;have z:zX w 93 #[ptr L.t,k] (.tuple #[kx ⟨0,0,0,false,⟨0,0,0,0,0⟩,0⟩,false]):=fun o m=>Ch (H.t.below m) k l _ hl;obtain⟨-,-,-,-,-,-,-,-,-,y,-,-,-,-,-,-,fz,yg⟩:=ca H.blk;clear H hl l;go_enter func46,ntmps46;go_wp2_with fail;refine(z.out _ ad).mono ?_;rintro e o ⟨rfl,a⟩;have b:=a.size;(try simp at b);have d:=bq a (w.heap.size);have c:=bq a (g);go_wp2_with fail;exact az 5 #[.int .i64 0,.int .i64 0,.int .i64 0,.int .i64 0,.int .i64 0] (.bool false) rfl rfl rfl rfl underlying35 rfl (by kernel_rfl) rc5 ⟨rfl,ad⟩
 | some v=>
  rw[Lr hl] at h;cases hv:v.has with
  | false=>
   rw[hv,if_neg (by decide)] at h;injection h with h1 h2
   injection h1 with h11 h12 h13 h14 h15
   subst h11;subst h12;subst h13;subst h14;subst h15;subst h2;exact Nh H k now l v hl hv
  | true=>
   rw[hv,if_pos rfl] at h;obtain⟨Q,T,V,X,⟨q,s,B,A,x⟩,r⟩:=v;simp only at hv;subst hv;obtain⟨⟨G,K,N,F,O⟩,D,i⟩:∃e k,n.at ⟨q,s,B,A,x⟩ r now=(e,k):=⟨_,_,rfl⟩;simp only[i] at h;injection h with h1 h2
   injection h1 with h11 h12 h13 h14 h15
   subst h11;subst h12;subst h13;subst h14;subst h15;have z:zX w 93 #[ptr L.t,k] (.tuple #[kx ⟨Q,T,V,true,⟨q,s,B,A,x⟩,r⟩,true]):=fun o m=>Ch (H.t.below m) k l _ hl;have R:zX w 94 #[ptr g,elC q s B A x,r,now] (.tuple #[elC G K N F O,D]):=fun o m=>Pm (H.below m) _ _ _ _ _ _ _ _ _ _ _ _ _ i;obtain⟨-,-,-,-,-,-,-,-,-,y,-,-,-,-,-,-,fz,yg⟩:=ca H.blk;have U:Hid ((D==0)=C):=h2;clear H hl l h2;go_enter func46,ntmps46;go_wp2_with fail;refine(z.out _ ad).mono ?_;rintro e o ⟨rfl,a⟩;have b:=a.size;(try simp at b);have d:=bq a (w.heap.size);have c:=bq a (g);go_wp2_with fail;refine(R.out _ ad).mono ?_;rintro e W ⟨rfl,f⟩;have j:=f.size;(try simp at j);have u:=bq f (w.heap.size);have p:=bq f (g);go_wp2_with fail;exact az 5 #[.int .i64 G,.int .i64 K,.int .i64 N,.int .i64 F,.int .i64 O] (.bool (D==0)) rfl rfl rfl rfl underlying35 rfl (by kernel_rfl) rc5 ⟨by rw[U.out],ad⟩
end
theorem Rt{n:NodeD}{k:Int}{e:El}{t now:Int}(h:(n.at e t now).2≠0):n.put k e t now=n:=by unfold NodeD.put;rw [if_pos h]
theorem TS{n:NodeD}{k:Int}{e f:El}{t now:Int}(h:n.at e t now=(f,0)){a:El}{b:Bool}(c:n.track k now=(a,b)):n.put k e t now={n with t:=(n.t.put k (if b then (mergeE a f).1 else f) now).1}:=by
 unfold NodeD.put;simp only[h,c];rw[if_neg (fun h=>h rfl)]
theorem QB{n:NodeD}{e f:El}{t now:Int}(h:n.at e t now=(f,0)):f.may=true:=(qZ (QC h)).2.2
theorem Nr{e f m:El}{k:Int}(a:f.may=true)(h:mergeE e f=(m,k)):k=0/\m.may=true:=⟨(Cm e f a 0 0 h).1,(Cm e f a 0 0 h).2.1⟩
section
variable {S:Nat->Prop} {w:World} {g:Nat} {L:NLay} {n:NodeD} (H:NodeAt S w g L n)
include H
theorem Mm(s:dA n.t)(k now:Int)(o : -9223372036854775808<=k/\k<=9223372036854775807)(x y a b d:Int)(u:El.may ⟨x,y,a,b,d⟩=true)(q:cA now=true)(m:World)(c:zB w m):Calls prog 310 #[ptr L.t,k,elC x y a b d,now] m fun e i=>(∃v,e=.returned v)/\aa S [] true w i/\NodeAt S i g L {n with t:=(n.t.put k ⟨x,y,a,b,d⟩ now).1}:=by
 cases hl:lk n.t.ents k with
 | none=>
  have e:(n.t.put k ⟨x,y,a,b,d⟩ now).1=n.t:=by unfold cB.put;rw[hl]
  rw[e];refine(MQ (H.t.below c) k o hl x y a b d now).mono ?_;rintro z i ⟨rfl,j⟩;have f:=c.trans (j.mono c.size);exact⟨⟨_,rfl⟩,aa.of_below f,H.below f⟩
 | some v=>
  refine(OG (H.t.below c) s k o v hl _ _ _ _ _ _ u q).mono ?_;rintro e i ⟨rfl,l,p⟩;refine⟨⟨_,rfl⟩,(aa.of_below (S:=S) c).trans (aa.of_map (gt:=L.t) (H.t.below c) l) (fun _ _ h=>h),?_⟩;have r:=aa.of_map (ty:=[375]) (H.t.below c) l;exact(H.below c).Kr r p
theorem Pe(I:dA n.t)(k now:Int)(C : -9223372036854775808<=k/\k<=9223372036854775807)(x y a b d t:Int)(G:cA now=true):Calls prog 257 #[ptr g,k,elC x y a b d,t,now] w fun e w'=>e=.returned (.tuple #[])/\aa S [] true w w'/\NodeAt S w' g L (n.put k ⟨x,y,a,b,d⟩ t now):=by
 obtain⟨⟨O,V,K,R,P⟩,Z,j⟩:∃e k,n.at ⟨x,y,a,b,d⟩ t now=(e,k):=⟨_,_,rfl⟩;have HA:zX w 94 #[ptr g,elC x y a b d,t,now] (.tuple #[elC O V K R P,Z]):=fun D hb=>Pm (H.below hb) _ _ _ _ _ _ _ _ _ _ _ _ _ j;have HH:=Lh H;obtain⟨-,-,-,-,-,-,-,-,-,F,-,-,-,-,-,-,fz,yg⟩:=ca H.blk;by_cases k0:Z=0
 ·subst k0;obtain⟨⟨N,M,J,T,U⟩,ok,s⟩:∃e b,n.track k now=(e,b):=⟨_,_,rfl⟩;have HB:zX w 46 #[ptr g,k,now] (.tuple #[elC N M J T U,ok]):=fun D hb=>Kz (H.below hb) k now C _ _ _ _ _ _ s;have r:=TS (k:=k) j s;have Q:=QB j;cases ok with
  | false=>
   rw[if_neg (by decide)] at r;have r:=Lh r;have X:=Lh (Mm H I k now C O V K R P Q G);clear H C G I j s Q;go_enter func257,ntmps257;go_wp2_with fail;refine(HA.out _ ad).mono ?_;rintro e D ⟨rfl,c⟩;have f:=c.size;(try simp at f);have l:=bq c (w.heap.size);have i:=bq c (g);go_wp2_with fail;refine(HB.out _ ad).mono ?_;rintro e w2 ⟨rfl,h⟩;have o:=h.size;(try simp at o);have q:=bq h (w.heap.size);have m:=bq h (g);go_wp2_with fail;refine dv 7 (by kernel_rfl) (by kernel_rfl) ?_;simp only[List.take_succ_cons,List.take_zero,List.drop_succ_cons,List.drop_zero];(repeat still_step);(try refine wpStill_nil ?_);go_wp2_with fail;refine(X.out _ ad).mono ?_;rintro e w3 ⟨⟨v3,rfl⟩,hT,Y⟩;go_wp2_with fail;refine bodyPost_end (results_none rfl _ _ _) rfl ?_;rw[r.out];exact⟨rfl,hT,Y⟩
  | true=>
   rw[if_pos rfl] at r;obtain⟨⟨m1,m2,m3,m4,m5⟩,km,v⟩:∃e k,mergeE ⟨N,M,J,T,U⟩ ⟨O,V,K,R,P⟩=(e,k):=⟨_,_,rfl⟩;obtain⟨rfl,E⟩:=Nr Q v;rw[v] at r;have r:=Lh r;have HM:=Lh v;have X:=Lh (Mm H I k now C m1 m2 m3 m4 m5 E G);clear H C G I j s Q v E;go_enter func257,ntmps257;go_wp2_with fail;refine(HA.out _ ad).mono ?_;rintro e D ⟨rfl,c⟩;have f:=c.size;(try simp at f);have l:=bq c (w.heap.size);have i:=bq c (g);go_wp2_with fail;refine(HB.out _ ad).mono ?_;rintro e w2 ⟨rfl,h⟩;have o:=h.size;(try simp at o);have q:=bq h (w.heap.size);have m:=bq h (g);go_wp2_with fail;refine(RK _ _ _ _ _ _ _ _ _ _ _ _ _ _ _ _ HM.out _).mono ?_;rintro e w4 ⟨rfl,p⟩;have A:=p.size;(try simp at A);have B:=bq p (w.heap.size);have z:=bq p (g);go_wp2_with fail;refine eN ?_;intro u W;have zA:w.heap.size<=(w2.alloc (Obj.cells #[N,M,J,T,U] 35)).heap.size:=by simp;omega
   have UB:Hid (zB w u):=by rw[W];exact(show Below _ _ _ from ad)
   have UE:Hid (Blk u w.heap.size #[m1,m2,m3,m4,m5] 35):=by
    rw[W];have X1:Blk D w.heap.size #[x,y,a,b,d] 35:=(Blk.new w _ _).keep c;have X2:=Le (c0:=.int .i64 O) (c1:=.int .i64 V) (c2:=.int .i64 K) (c3:=.int .i64 R) (c4:=.int .i64 P) X1;have X3:=((X2.keep h).alloc (Obj.cells #[N,M,J,T,U] 35)).keep p;exact Le X3
   have UH:=HH.out.below UB.out;clear W;clear f l i;clear o q m;clear A B z;clear c h p F fz yg;obtain⟨-,-,-,-,-,-,-,-,-,F,-,-,-,-,-,-,fz,yg⟩:=ca UH.blk;obtain⟨z5,z6,z7,z8⟩:=cz UE.out;refine dv 7 (by kernel_rfl) (by kernel_rfl) ?_;simp only[List.take_succ_cons,List.take_zero,List.drop_succ_cons,List.drop_zero];(repeat still_step);(try refine wpStill_nil ?_);go_wp2_with fail;refine(X.out _ UB.out.drew).mono ?_;rintro e w3 ⟨⟨v3,rfl⟩,hT,Y⟩;go_wp2_with fail;refine bodyPost_end (results_none rfl _ _ _) rfl ?_;rw[r.out];exact⟨rfl,hT,Y⟩
 ·have r:=Lh (Rt (n:=n) (k:=k) (e:=⟨x,y,a,b,d⟩) (t:=t) (now:=now) (by rw[j];exact k0));have a0:(Z != 0)=true:=by simp[k0]
  clear H C G I j;go_enter func257,ntmps257;go_wp2_with fail;refine(HA.out _ ad).mono ?_;rintro e D ⟨rfl,c⟩;have f:=c.size;(try simp at f);have l:=bq c (w.heap.size);have i:=bq c (g);go_wp2_with fail;refine bodyPost_ret (results_none rfl _ _ _) rfl ?_;rw[r.out];exact⟨rfl,aa.of_below ad,HH.out.below ad⟩
end
end Go.Proofs.YtechbdnhalmobaaGreatDoor
