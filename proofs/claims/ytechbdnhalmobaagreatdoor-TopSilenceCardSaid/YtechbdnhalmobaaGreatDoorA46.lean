/- Walks. -/
import Derived.Test.YtechbdnhalmobaaGreatDoorA30
import Derived.Deep.RegionHeld3
import Derived.OwnWalk
namespace Go.Proofs.YtechbdnhalmobaaGreatDoor
set_option linter.unusedSimpArgs false
set_option linter.unusedVariables false
set_option maxRecDepth 100000
set_option maxHeartbeats 16000000
open Go.RowKit Go.Maps
open Go.Proofs.Tryz
open Go.RowKit
theorem OX{w:World}{B e n b d k:Nat}{j:List Value}(h:w.ownsRow B e 1 (.slice (some ⟨b,0,none⟩) n d) n j)(v:k<n)(u:Value):(w.setCell ⟨b,k,none⟩ u).ownsRow B e 1 (.slice (some ⟨b,0,none⟩) n d) n (j.set k u):=by
 obtain⟨s,⟨a,-⟩|⟨g,c,i,a,r,l,m,o,q,p⟩⟩:=h
 ·cases a
 ·injection a with a _ h3
  injection a with a
  injection a with a
  subst a;subst h3;have t:Blk w b i e:=l;have f:=t.ab k u;refine⟨by simpa using s,.inr ⟨b,d,_,rfl,r,f,m,o,by simpa using q,?_⟩⟩;rw[Array.toList_setIfInBounds,<-p,Nat.mul_one,List.take_set]
theorem PP{m:Nat->Nat}{x W w5:World}{g tw ta:Nat}{gs:List Nat}{nv h:Value}{F:FleetD}(H:cY m x g tw ta gs nv h F)(i:zB x W)(f:W.grownBy w5 nv.ownBlock):Blk w5 g (flC F tw ta nv h) 73:=by
 have d:=cv H.rn i;have a:=H.blk.keep i;obtain⟨-,⟨rfl,-⟩|⟨b,l,e,rfl,-,j,-⟩⟩:=d
 ·exact a.keep (oq f)
 ·exact(pc f).blk a (Blk.ne a (show Blk W b e 43 from j) (by decide))
theorem Jp{x W w5:World}{B p f a n m:Nat}{nv v:Value}{u o:List Value}(s:x.ownsRow B 43 1 nv n u)(h:x.ownsRow p f a v m o)(d:f≠43)(q:zB x W)(l:W.grownBy w5 nv.ownBlock):w5.ownsRow p f a v m o:=by
 have e:=cv s q;have j:=cv h q;obtain⟨-,⟨rfl,-⟩|⟨b,t,i,rfl,-,r,-⟩⟩:=e
 ·exact cv j (oq l)
 ·exact fW j (aa.cU (S:=fun _=>True) (mp:=false) (pc l) (show Blk W b i 43 from r) (List.mem_singleton.2 rfl) trivial) (by simpa using d)
def Ke(w:World)(c:Cfg)(N cb g tw ta:Nat)(k:Nat)(wr:World):Prop:=
 ∃owr gs nv bv,cY owr wr g tw ta gs nv bv (fltK c N k)/\zB w wr/\(∀j,j<w.heap.size->owr j=0)/\Blk wr cb (Ha c).toArray 26/\owr cb=0
section
variable {w x wN W w5:World} {c:Cfg} {N cb g tw ta k ob co gN:Nat} {owr:Nat->Nat} {gs:List Nat} {nv v2:Value} {L:NLay}
theorem JV(hc:c.nodes=(N:Int))(H:cY owr x g tw ta gs nv (.slice (some ⟨ob,0,none⟩) N co) (fltK c N k))(hk:k<N)(C:zB w x)(h0:∀j,j<w.heap.size->owr j=0)(Y:Blk x cb (Ha c).toArray 26)(A:owr cb=0)(p:zB x wN)(hN:NodeAt (fun j=>x.heap.size<=j) wN gN L (NodeD.new c k 0 (ellAt k)))(l:zB wN W)(D:w5.ownsRow 0 43 1 v2 (k+1) (gs.map ptr++[ptr gN]))(s:W.grownBy w5 nv.ownBlock)(I:v2.ownBlock=nv.ownBlock∨v2.ownBlock=some W.heap.size):Ke w c N cb g tw ta (k+1) ((w5.setCell ⟨g,13,none⟩ v2).setCell ⟨ob,k,none⟩ (.bool true)):=by
 have r:(fltK c N k).n.length=k:=K4 c N k;have M:=p.size;have a0:=l.size;have S:gs.length=k:=by rw[<-r];exact H.ln
 have q:(fltK c N k).on.length=N:=by simp[fltK];omega
 obtain⟨F,hF⟩:∃F,fltK c N k=F:=⟨_,rfl⟩;have f:=NG c N k hk;rw[hF] at H r q f
 -- owners
 have H1:cY (ext owr x.heap.size (k+4)) wN g tw ta gs nv (.slice (some ⟨ob,0,none⟩) N co) F:=H.below p (k+4)
 have N1:NodeAt (fun j=>ext owr x.heap.size (k+4) j=k+4) wN gN L (NodeD.new c k 0 (ellAt k)):=hN.mono (fun j _ a=>by
  have a:x.heap.size<=j:=a;show ext owr x.heap.size (k+4) j=k+4;unfold ext;rw[if_neg (by omega)])
 obtain⟨v,i⟩:∃v,ext owr x.heap.size (k+4)=v:=⟨_,rfl⟩;rw[i] at H1 N1;have o:cY (ext v wN.heap.size 1) W g tw ta gs nv (.slice (some ⟨ob,0,none⟩) N co) F:=H1.below l 1
 have Z:NodeAt (fun j=>ext v wN.heap.size 1 j=F.n.length+4) W gN L (NodeD.new c k 0 (ellAt k)):=N1.kept (fun j a _=>l.block j a) (fun j a h=>by
  show ext v wN.heap.size 1 j=_;rw[gS a,r];exact h)
 obtain⟨t,m⟩:∃t,ext v wN.heap.size 1=t:=⟨_,rfl⟩;rw[m] at o Z;have Q:Blk w5 g (flC F tw ta nv (.slice (some ⟨ob,0,none⟩) N co)) 73:=PP o (Below.refl _ _) s;have U:W.ownsRow 0 4 1 (.slice (some ⟨ob,0,none⟩) N co) N (F.on.map Value.bool):=by have:=o.rb;rw[q] at this;exact this
 have y:w5.ownsRow 0 4 1 (.slice (some ⟨ob,0,none⟩) N co) N (F.on.map Value.bool):=Jp o.rn U (by decide) (Below.refl _ _) s
 obtain⟨O,V⟩:∃O,Blk w5 ob O 4:=by
  obtain⟨-,⟨d,-⟩|⟨b,c2,T,d,-,h4,-⟩⟩:=y
  ·cases d
  ·injection d with d;injection d with d;injection d with d;subst d;exact⟨T,h4⟩
 have B:ob≠g:=Blk.ne V Q (by decide);obtain⟨z,J⟩:∃z,w5.setCell ⟨g,13,none⟩ v2=z:=⟨_,rfl⟩;have R:ah g w5 z:=by rw[<-J];exact ah.refl.setCell 13 _
 have Gz:Blk z g (flC F tw ta v2 (.slice (some ⟨ob,0,none⟩) N co)) 73:=by rw[<-J];exact(Q.ab 13 _).of_eq rfl
 have Tg:aa (fun _=>True) [73] false w5 z:=aa.cU R Q (List.mem_singleton.2 rfl) trivial;have Bz:Blk z ob O 4:=R.blk V B;have P:ah ob z (z.setCell ⟨ob,k,none⟩ (.bool true)):=ah.refl.setCell k _;have Tb:aa (fun _=>True) [4] false z (z.setCell ⟨ob,k,none⟩ (.bool true)):=aa.cU P Bz (List.mem_singleton.2 rfl) trivial;rw[J];have G:t ob=1:=o.sb ob rfl
 have u:bg (fun j=>t j=1) W (z.setCell ⟨ob,k,none⟩ (.bool true)):=by
  have t1:bg (fun j=>t j=1) W w5:=⟨s.os,s.tape,s.output,s.size,fun j a hn=>s.block j a (fun e=>hn (o.sn j e.symm))⟩;exact(t1.gZ R (.inl o.og)).gZ P (.inl G)
 have X:=cY.push (nv':=v2) (bv':=.slice (some ⟨ob,0,none⟩) N co) (on':=F.on.set k true) o Z u
  ((P.blk Gz B.symm).of_eq rfl)
  (by rw[S];exact fW (fW D Tg (by decide)) Tb (by decide))
  (fun b e=>by
   rcases I with h|h
   ·exact .inl (o.sn b (h ▸ e))
   ·rw[h] at e;injection e with e;exact .inr (by omega))
  (by
   have:=OX (fW y Tg (by decide)) hk (.bool true);rw[List.length_set,q,List.map_set];exact this)
  (fun b e=>.inl (o.sb b e))
 rw[f] at X;have E:=Y.lt;refine⟨_,_,_,_,X,?_,?_,?_,?_⟩
 ·have d:zB w W:=(C.trans (p.mono C.size)).trans (l.mono (Nat.le_trans C.size M));refine u.below d (Nat.le_refl _) (fun j a=>?_);have a:t j=1:=a;rcases Nat.lt_or_ge j w.heap.size with K|K
  ·have:=C.size;rw[<-m,gS (by omega),<-i,gS (by omega),h0 j K] at a;cases a
  ·exact K
 ·intro j a;have:=C.size;rw[gS (by omega),<-m,gS (by omega),<-i,gS (by omega)];exact h0 j a
 ·have d:Blk W cb (Ha c).toArray 26:=(Y.keep p).keep l
  exact u.blk d (by
   show ¬t cb=1;rw[<-m,gS (by omega),<-i,gS E,A];decide)
 ·rw[gS (by omega),<-m,gS (by omega),<-i,gS E];exact A
end
theorem Jr{w x u1 k v:World}{c:Cfg}{N g tw s:Nat}{d:Value}(B:A6 (fun j=>w.heap.size+1<=j) x tw (.new c))(y:zB w x)(K:w.heap.size+1<=x.heap.size)(D:Blk x w.heap.size (Ha c).toArray 26)(p:zB x u1)(J:Ap (fun j=>u1.heap.size<=j) k s [])(l:zB u1 k)(r:zB k v)(C:Blk v g (flC (fltK c N 0) tw s (.slice none 0 0) d) 73)(I:k.heap.size<=g)(F:v.ownsRow 0 4 1 d N ((List.replicate N false).map Value.bool))(q:∀b,d.ownBlock=some b->x.heap.size<=b/\¬(u1.heap.size<=b/\b<k.heap.size)):Ke w c N w.heap.size g tw s 0 v:=by
 have t:=p.size;have G:=l.size;have L:=r.size;have o:zB x v:=(p.trans (l.mono t)).trans (r.mono (Nat.le_trans t G));obtain⟨m,f⟩:∃m:Nat->Nat,m=fun j=>if j<w.heap.size+1 then 0 else if j<x.heap.size then 3 else if u1.heap.size<=j/\j<k.heap.size then 2 else 1:=⟨_,rfl⟩
 have z:∀j,j<w.heap.size+1->m j=0:=fun j a=>by rw[f];simp only;rw[if_pos a]
 have E:∀j,w.heap.size+1<=j->j<x.heap.size->m j=3:=fun j p l=>by rw[f];simp only;rw[if_neg (by omega),if_pos l]
 have H:∀j,u1.heap.size<=j->j<k.heap.size->m j=2:=fun j p l=>by rw[f];simp only;rw[if_neg (by omega),if_neg (by omega),if_pos ⟨p,l⟩]
 have A:∀j,x.heap.size<=j->¬(u1.heap.size<=j/\j<k.heap.size)->m j=1:=fun j p l=>by rw[f];simp only;rw[if_neg (by omega),if_neg (by omega),if_neg l]
 refine⟨m,[],.slice none 0 0,d,⟨C,A g (by omega) (by omega),rfl,⟨rfl,.inl ⟨rfl,rfl⟩⟩,(fun b e=>by cases e),?_,fun b e=>A b (q b e).1 (q b e).2,?_,?_,?_⟩,y.trans (o.mono y.size),fun j a=>z j (by omega),D.keep o,z _ (by omega)⟩
 ·have e:(fltK c N 0).on=List.replicate N false:=by simp[fltK]
  rw[e,List.length_replicate];exact F
 ·exact J.kept r.size (fun j a _=>r.block j a) (fun j a h=>H j h a)
 ·exact B.kept (fun j a _=>o.block j a) (fun j a h=>E j h a)
 ·intro i n u;have:(fltK c N 0).n=[]:=rfl;rw[this] at u;simp at u
theorem Ke.below{w wr b:World}{c:Cfg}{N cb g tw ta k:Nat}(h:Ke w c N cb g tw ta k wr)(hb:zB wr b):Ke w c N cb g tw ta k b:=by
 obtain⟨e,gs,nv,bv,m,a,f,d,i⟩:=h;have:=a.size;exact⟨_,gs,nv,bv,m.below hb 0,a.trans (hb.mono a.size),fun j l=>(gS (by omega)).trans (f j l),d.keep hb,(gS d.lt).trans i⟩
theorem lq{a:Array Oper}{i:Nat}{o:Oper}(h:(a.toList.drop i).head?=some o):a[i]?=some o:=by rw [List.head?_drop,Array.getElem?_toList] at h;exact h
theorem li{w:World}{b t:Nat}{m e g j d k f i c l a:Value}(h:Blk w b #[m,e,g,j,d,k,f,i,c,l,a] t):w.cell? ⟨b,0,none⟩=some m/\w.cell? ⟨b,1,none⟩=some e/\w.cell? ⟨b,2,none⟩=some g/\w.cell? ⟨b,3,none⟩=some j/\w.cell? ⟨b,4,none⟩=some d/\w.cell? ⟨b,5,none⟩=some k/\w.cell? ⟨b,6,none⟩=some f/\w.cell? ⟨b,7,none⟩=some i/\w.cell? ⟨b,8,none⟩=some c/\w.cell? ⟨b,9,none⟩=some l/\w.cell? ⟨b,10,none⟩=some a:=⟨h.cell rfl,h.cell rfl,h.cell rfl,h.cell rfl,h.cell rfl,h.cell rfl,h.cell rfl,h.cell rfl,h.cell rfl,h.cell rfl,h.cell rfl⟩
theorem nx{w:World}{b t:Nat}{f c d e a:Value}(h:Blk w b #[f,c,d,e,a] t):w.cell? ⟨b,0,none⟩=some f/\w.cell? ⟨b,1,none⟩=some c/\w.cell? ⟨b,2,none⟩=some d/\w.cell? ⟨b,3,none⟩=some e/\w.cell? ⟨b,4,none⟩=some a:=⟨h.cell rfl,h.cell rfl,h.cell rfl,h.cell rfl,h.cell rfl⟩
theorem Rz{w:World}{B e n b d:Nat}{f:List Value}(h:w.ownsRow B e 1 (.slice (some ⟨b,0,none⟩) n d) n f):∃g,Blk w b g e:=by
 obtain⟨-,⟨a,-⟩|⟨b,j,c,a,-,i,-⟩⟩:=h
 ·cases a
 ·injection a with a;injection a with a;injection a with a;subst a;exact⟨c,i⟩
theorem zN{o:Nat->Nat}{x W i:World}{g tw l b c:Nat}{j:Array Value}{p:List Nat}{nv m:Value}{F:FleetD}(H:cY o x g tw l p nv m F)(a:Blk W b j c)(d:c≠43)(q:zB x W)(h:W.grownBy i nv.ownBlock):Blk i b j c:=by
 have e:=cv H.rn q;obtain⟨-,⟨rfl,-⟩|⟨b,n,f,rfl,-,k,-⟩⟩:=e
 ·exact a.keep (oq h)
 ·exact(pc h).blk a (Blk.ne a (show Blk W b f 43 from k) d)
theorem JU{x W d:World}{l:Nat->Nat}{g tw r c co N k:Nat}{v:List Nat}{nv:Value}{F:FleetD}(H:cY l x g tw r v nv (.slice (some ⟨c,0,none⟩) N co) F)(i:F.on.length=N)(z:k<N)(t:zB x W)(p:W.grownBy d nv.ownBlock):Blk d g (flC F tw r nv (.slice (some ⟨c,0,none⟩) N co)) 73/\(∃b,d.cell? ⟨c,k,none⟩=some (.bool b))/\(∀o,d.frozen? ⟨c,o,none⟩=false)/\c<d.heap.size/\¬(c=g)/\¬(g=c):=by
 have s:=PP H t p;have rb:x.ownsRow 0 4 1 (.slice (some ⟨c,0,none⟩) N co) N (F.on.map Value.bool):=by have:=H.rb;rw[i] at this;exact this
 have f:d.ownsRow 0 4 1 (.slice (some ⟨c,0,none⟩) N co) N (F.on.map Value.bool):=Jp H.rn rb (by decide) t p
 obtain⟨q,j⟩:∃q,Blk d c q 4:=by
  obtain⟨-,⟨a,-⟩|⟨b,u,n,a,-,w,-⟩⟩:=f
  ·cases a
  ·injection a with a;injection a with a;injection a with a;subst a;exact⟨n,w⟩
 have h:c≠g:=Blk.ne j s (by decide);refine⟨s,?_,j.frozen,j.lt,h,h.symm⟩;obtain⟨b,m⟩:∃b,F.on[k]?=some b:=⟨_,List.getElem?_eq_getElem (by omega)⟩;obtain⟨y,u,e,-,-,a⟩:=zV f (k:=k) (x:=.bool b) (by rw[List.getElem?_map,m];rfl);injection e with e _ _
 injection e with e
 injection e with e
 subst e;exact⟨b,a⟩
theorem Ot(c:Cfg)(N k:Nat)(h:c.nodes=(N:Int))(a:k<N):(fU.new c).p[k]?=some (1000*((k:Int)%8),1000*((k:Int)/8)):=by
 unfold fU.new;simp only;rw[List.getElem?_map,List.getElem?_range (by omega)];rfl
theorem IW(c:Cfg)(hc:c.may=true)(w:World):Calls prog 23 #[If c] w fun e r=>∃g,e=.returned (.tuple #[ptr g,.int .i64 0])/\∃tw ta gs nv bv a0,cY a0 r g tw ta gs nv bv (.new c)/\zB w r/\∀j,j<w.heap.size->a0 j=0:=by
 have f7:=Af c hc;obtain⟨N,hN⟩:∃N:Nat,c.nodes=(N:Int):=⟨c.nodes.toNat,by omega⟩;have g8:N<=64:=by omega
 have hm:=run_make_row' (P:=prog) 71 4 (.bool false) 1 underlying71 IP rfl .i64 .i64 N (by omega) (by omega);obtain⟨i0,hi,c3,c0,b9⟩:=info_parts RV;have HC:=Lh hc;have i7:=Lh hN;obtain⟨x0,V,W,U,R,Q,O,X,Y,T,p⟩:=c;simp only at hN;subst hN;clear hc f7;go_enter func23,ntmps23;go_wp2_with fail;refine(Ou _ HC.out _).mono ?_;rintro e D ⟨tw,rfl,hT,f3⟩;have BC:Hid (Blk D w.heap.size #[N,V,W,U,R,Q,O,X,Y,T,p] 26):=Blk.keep (Blk.new _ _ _) f3;have c8:Hid (zB w D):=(show Below _ _ _ from ad);have d9:=BC.out.lt;obtain⟨E,I⟩:∃E:Cfg,(⟨(N:Int),V,W,U,R,Q,O,X,Y,T,p⟩:Cfg)=E:=⟨_,rfl⟩;have b3:=Lh I
 have c7:Hid (A6 (fun j=>w.heap.size+1<=j) D tw (.new E)):=by
  show A6 _ _ _ _;rw[<-I];exact hT.kept (fun _ _ _=>rfl) (fun j _ h=>by simpa using h)
 clear f3 hT;obtain⟨y1,c1,f1,-⟩:=cz BC.out;have g6:=BC.out.row?_all 11 rfl;go_wp2_with fail;go_cut [5] from 6 (fun s5 wc=>∃g ta,s5=ptr g/\Hid (Ke w E N w.heap.size g tw ta 0 wc))
 case first=>
  go_region_with (go_at_call 54;refine(QF _).mono ?_;rintro e w2 ⟨rfl,hA,q⟩;have a8:=q.size;(try simp at a8);have c2:=bq q (w.heap.size))
  all_goals go_wp2_with fail
  all_goals go_meet
  all_goals first
   | (refine⟨_, D.heap.size, rfl, ?_⟩
      show Ke _ _ _ _ _ _ _ _ _;have MO:=F4 w2 N (by unfold maxLen;omega);have d4:D.heap.size<=w2.heap.size:=q.size;refine Jr (u1:=D.drew) c7.out c8.out (by omega) (by rw[<-I];exact BC.out) (Below.refl _ _).drew hA q (((Below.refl _ _).alloc (Nat.le_refl _) _).alloc (by simp) _) (Blk.of_eq (Blk.new1 w2 _ _ _) (by rw[<-I];rfl)) (Nat.le_succ _) (cv MO ((Below.refl _ _).alloc (Nat.le_refl _) _)) (fun b e=>?_);injection e with e
      simp only at e;refine⟨by omega,fun h=>?_⟩;omega)
   | (refine⟨_, D.heap.size + 1, rfl, ?_⟩
      show Ke _ _ _ _ _ _ _ _ _;have MO:=F4 D N (by unfold maxLen;omega);have d4:D.heap.size+1<=w2.heap.size:=by have:=q.size;simpa using this
      refine Jr (u1:=(D.alloc (.cells (madeCells #[.bool false] N) 4)).drew) c7.out c8.out (by omega) (by rw[<-I];exact BC.out) ((Below.refl _ _).alloc (Nat.le_refl _) _).drew (by simpa using hA) (by simpa using q) ((Below.refl _ _).alloc (Nat.le_refl _) _) (Blk.of_eq (Blk.new w2 _ _) (by rw[<-I];rfl)) (Nat.le_refl _) (cv (cv (cv MO (Below.refl _ _).drew) (by simpa using q)) ((Below.refl _ _).alloc (Nat.le_refl _) _)) (fun b e=>?_);injection e with e
      simp only at e;refine⟨by omega,fun h=>?_⟩;simp at h;omega)
 case rest=>
  obtain⟨g,ta,rfl,d8⟩:=hcut;clear y1 c1 f1 g6 BC c8 d9 I c7 hm;have B:Hid (E.nodes=(N:Int)/\E.may=true/\(Ha E).toArray=#[.int .i64 N,.int .i64 V,.int .i64 W,.int .i64 U,.int .i64 R,.int .i64 Q,.int .i64 O,.int .i64 X,.int .i64 Y,.int .i64 T,.int .i64 p]):=⟨by rw[<-b3.out],by rw[<-b3.out];exact HC.out,by rw[<-b3.out]⟩;obtain⟨i3,i8,i5,i4,f0,d1,-,J,-⟩:=id d8.out;rw[B.out.2.2] at J;obtain⟨y1,c1,f1,-⟩:=cz J;go_wp2_with fail;clear y1 c1 f1 J f0 d1;go_loopw [24] (fun c6 wr=>∃k:Nat,k<=N/\c6=.int .i64 k/\Hid (Ke w E N w.heap.size g tw ta k wr)) (fun c6 _=>N-(intOf c6).toNat)
  case atStart=>exact⟨0,by omega,rfl,d8⟩
  case round=>
   obtain⟨k,hk,rfl,HK⟩:=hrel;by_cases M:k<N
   ·have k1:(k:Int)<(N:Int):=by omega
    have k2:(0:Int)<=(k:Int):=by omega
    obtain⟨a0,gs,nv,bv,s,A,h0,F,b0⟩:=HK.out;have d0:gs.length=k:=by rw[s.ln];exact K4 E N k
    have f2:(fltK E N k).on.length=N:=by simp[fltK];omega
    have b6:=s.rb;rw[f2] at b6;obtain⟨ob,co,rfl⟩:=xB b6 (by omega);have b2:=s.rn;rw[d0] at b2;obtain⟨an,cn,rfl⟩:=kh b2;obtain⟨x,hx⟩:∃x,1000*((k:Int)%8)=x:=⟨_,rfl⟩;obtain⟨y,hy⟩:∃y,1000*((k:Int)/8)=y:=⟨_,rfl⟩
    have g3:zX wr 55 #[ptr tw,k] (.tuple #[.agg #[x,y],true]):=fun D hb=>by
     obtain⟨pv,mv,h2⟩:=(s.below hb 0).t;exact Ko h2 k x y (by rw[<-hx,<-hy];exact Ot E N k B.out.1 M)
    obtain⟨⟨Z,e2,e3,e4,e5⟩,he⟩:∃e,ellAt k=e:=⟨_,rfl⟩;have i6:=F.lt;have g9:=s.blk.lt;have n:=Lh s;have a9:=Lh A;have a6:=Lh h0;have b1:=Lh F;have c9:=Lh b0;have c5:=Lh b2;have f5:=Lh b6;have HE:=Lh he;have i1:=Lh d0;have h7:=A.size;clear s A h0 F b0 b2 b6 he d0 f2 HK;have c4:Hid ((fltK E N k).on.length=N):=by show _=_;simp[fltK];omega
    have e6:Blk wr w.heap.size #[N,V,W,U,R,Q,O,X,Y,T,p] 26:=B.out.2.2 ▸ b1.out;obtain⟨f9,d2⟩:=Rz f5.out;have f8:¬(w.heap.size=ob):=Blk.ne e6 d2 (by decide);have h4:¬(ob=w.heap.size):=fun e=>f8 e.symm;have i2:=d2.lt;clear d2 f9;go_wp2_with fail;refine(g3.out _ ad).mono ?_;rintro e w2 ⟨rfl,q⟩;have a8:=q.size;(try simp at a8);have c2:=bq q (wr.heap.size);by_cases k3:k<3
    all_goals first
     | (have k4 : (k : Int) < 3 := by omega
        obtain⟨kk,e8⟩:∃kk,ballE x y 10=(⟨Z,e2,e3,e4,e5⟩,kk):=by
         have:=HE.out;unfold ellAt at this;rw[if_pos k3,hx,hy] at this;exact⟨_,by rw[<-this]⟩
        have g0:=Lh e8;clear e8;go_wp2_with fail;refine(fE x y 10 Z e2 e3 e4 e5 kk g0.out _).mono ?_;rintro e w3 ⟨rfl,b4⟩;have d6:=b4.size;(try simp at d6);have g7:=bq b4 (wr.heap.size);have g4:=bq b4 (w2.heap.size);go_wp2_with fail;refine eN ?_;intro u hu
        have f4:Blk u wr.heap.size #[Z,e2,e3,e4,e5] 35:=by
         rw[hu];have XX:Blk w3 wr.heap.size #[.int .i64 0,.int .i64 0,.int .i64 0,.int .i64 0,.int .i64 0] 35:=Blk.keep ((Blk.keep (Blk.new wr _ _) q).alloc _) b4;exact Iy 0 XX _ _ _ _ _
        have HU:Hid (zB wr u):=by rw[hu];show Below _ _ _;exact ad)
     | (have k4 : ¬ (k : Int) < 3 := by omega
        have e0:Z=0/\e2=0/\e3=0/\e4=0/\e5=0:=by
         have:=HE.out;unfold ellAt at this;rw[if_neg k3] at this;injection this with a1 a2 a3 a4 a5
         exact⟨a1.symm,a2.symm,a3.symm,a4.symm,a5.symm⟩
        go_wp2_with fail;refine eN ?_;intro u hu
        have f4:Blk u wr.heap.size #[Z,e2,e3,e4,e5] 35:=by
         obtain⟨rfl,rfl,rfl,rfl,rfl⟩:=e0;rw[hu];exact(Blk.keep (Blk.new wr _ _) q).alloc _
        clear e0;have HU:Hid (zB wr u):=by rw[hu];show Below _ _ _;exact ad)
    all_goals
     have UC:Blk u w.heap.size #[N,V,W,U,R,Q,O,X,Y,T,p] 26:=e6.keep HU.out;have UF:Blk u g (flC (fltK E N k) tw ta (.slice an k cn) (.slice (some ⟨ob,0,none⟩) N co)) 73:=n.out.blk.keep HU.out;have h8:u.cell? ⟨g,14,none⟩=some (.slice (some ⟨ob,0,none⟩) N co):=UF.cell rfl;have h9:u.cell? ⟨g,13,none⟩=some (.slice an k cn):=UF.cell rfl;have qf:=UF.frozen;have qy:=UF.lt;have h6:=HU.out.size;have f6:¬(w.heap.size=g):=Blk.ne UC UF (by decide);have h5:¬(g=w.heap.size):=fun e=>f6 e.symm;clear UF
     have e7:Hid (∀D,zB u D->Calls prog 56 #[.agg #[N,V,W,U,R,Q,O,X,Y,T,p],k,.int .i64 0,elC Z e2 e3 e4 e5] D fun e r=>∃gN L,e=.returned (ptr gN)/\NodeAt (fun j=>wr.heap.size<=j) r gN L (.new E k 0 (ellAt k))/\zB D r):=fun D hb=>by
      have h1:=LN E B.out.2.1 k (by omega) D;rw[HE.out] at h1;have ec:If E=.agg #[N,V,W,U,R,Q,O,X,Y,T,p]:=by show Value.agg (Ha E).toArray=_;rw[B.out.2.2]
      rw[ec] at h1;refine h1.mono ?_;rintro e r ⟨gN,L,rfl,h2,h3⟩;refine⟨gN,L,rfl,?_,h3⟩;rw[HE.out]
      exact h2.mono (fun j _ hj=>by
       have hj:D.heap.size<=j:=hj;have:=hb.size;show wr.heap.size<=j;omega)
     clear hu;refine wp_region_noPanic ?_;refine wp_region_held_drew (S:=(fun r=>(r.cell? ⟨w.heap.size,0,none⟩=some (.int .i64 N)/\r.cell? ⟨w.heap.size,1,none⟩=some (.int .i64 V)/\r.cell? ⟨w.heap.size,2,none⟩=some (.int .i64 W)/\r.cell? ⟨w.heap.size,3,none⟩=some (.int .i64 U)/\r.cell? ⟨w.heap.size,4,none⟩=some (.int .i64 R)/\r.cell? ⟨w.heap.size,5,none⟩=some (.int .i64 Q)/\r.cell? ⟨w.heap.size,6,none⟩=some (.int .i64 O)/\r.cell? ⟨w.heap.size,7,none⟩=some (.int .i64 X)/\r.cell? ⟨w.heap.size,8,none⟩=some (.int .i64 Y)/\r.cell? ⟨w.heap.size,9,none⟩=some (.int .i64 T)/\r.cell? ⟨w.heap.size,10,none⟩=some (.int .i64 p))/\(r.cell? ⟨wr.heap.size,0,none⟩=some (.int .i64 Z)/\r.cell? ⟨wr.heap.size,1,none⟩=some (.int .i64 e2)/\r.cell? ⟨wr.heap.size,2,none⟩=some (.int .i64 e3)/\r.cell? ⟨wr.heap.size,3,none⟩=some (.int .i64 e4)/\r.cell? ⟨wr.heap.size,4,none⟩=some (.int .i64 e5))/\r.cell? ⟨g,14,none⟩=some (.slice (some ⟨ob,0,none⟩) N co))) (by kernel_rfl) ?_ (fun f=>?_);focus ((try dsimp only);exact⟨li (t:=26) cC,nx (t:=35) cC,by go_simp⟩)
     refine wpAnyH_take (i:=0) (oi:=_) (v:=?_) rfl (by kernel_rfl) (by kernel_rfl) (by kernel_rfl) (fun _ _ _ h=>h) (Or.inl ⟨by rfl,?_⟩) (by assumption) ?_;rotate_left
     focus (intro z a;(try dsimp only at a);go_simp;try with_reducible rfl)
     try simp only[Act.put,List.setIfInBounds_toArray,List.set_cons_zero,List.set_cons_succ]
     refine wpAnyH_take (i:=1) (oi:=_) (v:=?_) rfl (by kernel_rfl) (by kernel_rfl) (by kernel_rfl) (fun _ _ _ h=>h) (Or.inl ⟨by rfl,?_⟩) (by assumption) ?_;rotate_left
     focus (intro z a;(try dsimp only at a);go_simp;try with_reducible rfl)
     try simp only[Act.put,List.setIfInBounds_toArray,List.set_cons_zero,List.set_cons_succ]
     refine wpAnyH_take (i:=2) (oi:=_) (v:=?_) rfl (by kernel_rfl) (by kernel_rfl) (by kernel_rfl) (fun _ _ _ h=>h) (Or.inl ⟨by rfl,?_⟩) (by assumption) ?_;rotate_left
     focus (intro z a;(try dsimp only at a);go_simp;try with_reducible rfl)
     try simp only[Act.put,List.setIfInBounds_toArray,List.set_cons_zero,List.set_cons_succ]
     refine wpAnyH_take (i:=3) (oi:=_) (v:=?_) rfl (by kernel_rfl) (by kernel_rfl) (by kernel_rfl) (fun _ _ _ h=>h) (Or.inl ⟨by rfl,?_⟩) (by assumption) ?_;rotate_left
     focus (intro z a;(try dsimp only at a);go_simp;try with_reducible rfl)
     try simp only[Act.put,List.setIfInBounds_toArray,List.set_cons_zero,List.set_cons_succ]
     refine wpAnyH_take (i:=4) (oi:=_) (v:=?_) rfl (by kernel_rfl) (by kernel_rfl) (by kernel_rfl) (fun _ _ _ h=>h) (Or.inl ⟨by rfl,?_⟩) (by assumption) ?_;rotate_left
     focus (intro z a;(try dsimp only at a);go_simp;try with_reducible rfl)
     try simp only[Act.put,List.setIfInBounds_toArray,List.set_cons_zero,List.set_cons_succ]
     refine wpAnyH_take (i:=5) (oi:=_) (v:=?_) rfl (by kernel_rfl) (by kernel_rfl) (by kernel_rfl) (fun _ _ _ h=>h) (Or.inl ⟨by rfl,?_⟩) (by assumption) ?_;rotate_left
     focus (intro z a;(try dsimp only at a);go_simp;try with_reducible rfl)
     try simp only[Act.put,List.setIfInBounds_toArray,List.set_cons_zero,List.set_cons_succ]
     refine wpAnyH_take (i:=6) (oi:=_) (v:=?_) rfl (by kernel_rfl) (by kernel_rfl) (by kernel_rfl) (fun _ _ _ h=>h) (Or.inl ⟨by rfl,?_⟩) (by assumption) ?_;rotate_left
     focus (intro z a;(try dsimp only at a);go_simp;try with_reducible rfl)
     try simp only[Act.put,List.setIfInBounds_toArray,List.set_cons_zero,List.set_cons_succ]
     refine wpAnyH_take (i:=7) (oi:=_) (v:=?_) rfl (by kernel_rfl) (by kernel_rfl) (by kernel_rfl) (fun _ _ _ h=>h) (Or.inl ⟨by rfl,?_⟩) (by assumption) ?_;rotate_left
     focus (intro z a;(try dsimp only at a);go_simp;try with_reducible rfl)
     try simp only[Act.put,List.setIfInBounds_toArray,List.set_cons_zero,List.set_cons_succ]
     refine wpAnyH_take (i:=8) (oi:=_) (v:=?_) rfl (by kernel_rfl) (by kernel_rfl) (by kernel_rfl) (fun _ _ _ h=>h) (Or.inl ⟨by rfl,?_⟩) (by assumption) ?_;rotate_left
     focus (intro z a;(try dsimp only at a);go_simp;try with_reducible rfl)
     try simp only[Act.put,List.setIfInBounds_toArray,List.set_cons_zero,List.set_cons_succ]
     refine wpAnyH_take (i:=10) (oi:=_) (v:=?_) rfl (by kernel_rfl) (by kernel_rfl) (by kernel_rfl) (fun _ _ _ h=>h) (Or.inl ⟨by rfl,?_⟩) (by assumption) ?_;rotate_left
     focus (intro z a;(try dsimp only at a);go_simp;try with_reducible rfl)
     try simp only[Act.put,List.setIfInBounds_toArray,List.set_cons_zero,List.set_cons_succ]
     refine wpAnyH_take (i:=11) (oi:=_) (v:=?_) rfl (by kernel_rfl) (by kernel_rfl) (by kernel_rfl) (fun _ _ _ h=>h) (Or.inl ⟨by rfl,?_⟩) (by assumption) ?_;rotate_left
     focus (intro z a;(try dsimp only at a);go_simp;try with_reducible rfl)
     try simp only[Act.put,List.setIfInBounds_toArray,List.set_cons_zero,List.set_cons_succ]
     refine wpAnyH_take (i:=12) (oi:=_) (v:=?_) rfl (by kernel_rfl) (by kernel_rfl) (by kernel_rfl) (fun _ _ _ h=>h) (Or.inl ⟨by rfl,?_⟩) (by assumption) ?_;rotate_left
     focus (intro z a;(try dsimp only at a);go_simp;try with_reducible rfl)
     try simp only[Act.put,List.setIfInBounds_toArray,List.set_cons_zero,List.set_cons_succ]
     refine wpAnyH_ready (rs:=[9,13]) (by kernel_rfl) (by simp) ?_;refine AllReadyH.cons (o:=_) (lq rfl) (fun K l=>?_) ?_
     focus
      go_simp;refine l.out _ _ ?_ (fun f=>?_);focus ((try dsimp only);exact⟨li (t:=26) cC,nx (t:=35) cC,by go_simp⟩)
      clear l K;try simp only[Act.put,List.setIfInBounds_toArray,List.set_cons_zero,List.set_cons_succ]
      refine wpAnyH_ready (rs:=[13]) (by kernel_rfl) (by simp) ?_;refine AllReadyH.cons (o:=_) (lq rfl) (fun K l=>?_) ?_
      focus
       go_simp;(go_at_call 56;refine(e7.out _ ad).mono ?_;rintro e w6 ⟨gN,L,rfl,hN,C⟩;have a7:=C.size;(try simp at a7);have b5:=bq C (g);have g2:Blk w6 w.heap.size #[N,V,W,U,R,Q,O,X,Y,T,p] 26:=(by refine Blk.keep ?_ C;exact cC);have g5:Blk w6 wr.heap.size #[Z,e2,e3,e4,e5] 35:=(by refine Blk.keep ?_ C;exact cC));try go_wp2_with fail
       refine l.out _ _ ?_ (fun f=>?_);focus ((try dsimp only);exact⟨li (t:=26) cC,nx (t:=35) cC,by go_simp⟩)
       clear l K;try simp only[Act.put,List.setIfInBounds_toArray,List.set_cons_zero,List.set_cons_succ]
       refine wpAnyH_ready (rs:=[14]) (by kernel_rfl) (by simp) ?_;refine AllReadyH.cons (o:=_) (lq rfl) (fun K l=>?_) ?_
       focus
        go_simp;refine l.out _ _ ?_ (fun f=>?_);focus ((try dsimp only);exact⟨li (t:=26) cC,nx (t:=35) cC,by go_simp⟩)
        clear l K;try simp only[Act.put,List.setIfInBounds_toArray,List.set_cons_zero,List.set_cons_succ]
        refine wpAnyH_ready (rs:=[15]) (by kernel_rfl) (by simp) ?_;refine AllReadyH.cons (o:=_) (lq rfl) (fun K l=>?_) ?_
        focus
         (refine na rfl (.tmp 50) (.tmp 55) 70 rfl 0 43 i0 (.pointer none) 1 8 underlying70 hi c3 c0 b9 rfl (by decide) (.slice an k cn) k (gs.map ptr) (by simp[Act.eval,Act.put]) (cv c5.out (show Below _ _ _ from ad)) ⟨w6.heap.size,0,none⟩ 1 1 [ptr gN] (by simp[Act.eval,Act.put]) rfl (te (Blk.new _ _ 43)) (JP gN) (by unfold maxLen;omega) (by omega) (by simp) ?_;intro v' w5 m d G;obtain⟨g',b7,rfl⟩:=xB m (by omega);obtain⟨H,⟨yb,yc⟩,yd,ye,yf,yg⟩:=JU (k:=k) n.out c4.out M (by exact(show Below _ _ _ from ad)) d;have d7:Blk w5 w.heap.size #[N,V,W,U,R,Q,O,X,Y,T,p] 26:=zN n.out (show Blk _ _ _ _ from cC) (by decide) (show Below _ _ _ from ad) d;have b8:Blk w5 wr.heap.size #[Z,e2,e3,e4,e5] 35:=zN n.out (show Blk _ _ _ _ from cC) (by decide) (show Below _ _ _ from ad) d;have yq:=H.cell (i:=13) (v:=.slice an k cn) rfl;have e9:=H.cell (i:=14) (v:=.slice (some ⟨ob,0,none⟩) N co) rfl;have d5:=H.frozen;have d3:=H.lt;have YE:=Lh (JV (N:=N) (w:=w) (cb:=w.heap.size) B.out.1 n.out M a9.out a6.out b1.out c9.out (by exact(show Below _ _ _ from ad)) hN (by exact(show Below _ _ _ from ad)) m d G);clear m d G H)
         refine l.out _ _ ?_ (fun f=>?_);focus ((try dsimp only);exact⟨li (t:=26) cC,nx (t:=35) cC,by go_simp⟩)
         clear l K;try simp only[Act.put,List.setIfInBounds_toArray,List.set_cons_zero,List.set_cons_succ]
         refine wpAnyH_take (i:=16) (oi:=_) (v:=?_) rfl (by kernel_rfl) (by kernel_rfl) (by kernel_rfl) (fun _ _ _ h=>h) (Or.inl ⟨by rfl,?_⟩) (by assumption) ?_;rotate_left
         focus (intro z a;(try dsimp only at a);go_simp;try with_reducible rfl)
         try simp only[Act.put,List.setIfInBounds_toArray,List.set_cons_zero,List.set_cons_succ]
         refine wpAnyH_take (i:=17) (oi:=_) (v:=?_) rfl (by kernel_rfl) (by kernel_rfl) (by kernel_rfl) (fun _ _ _ h=>h) (Or.inl ⟨by rfl,?_⟩) (by assumption) ?_;rotate_left
         focus (intro z a;(try dsimp only at a);go_simp;try with_reducible rfl)
         try simp only[Act.put,List.setIfInBounds_toArray,List.set_cons_zero,List.set_cons_succ]
         refine wpAnyH_ready (rs:=[18]) (by kernel_rfl) (by simp) ?_;refine AllReadyH.cons (o:=_) (lq rfl) (fun K l=>?_) ?_
         focus
          go_simp;refine l.out _ _ ?_ (fun f=>?_);focus ((try dsimp only);exact⟨li (t:=26) cC,nx (t:=35) cC,by go_simp⟩)
          clear l K;try simp only[Act.put,List.setIfInBounds_toArray,List.set_cons_zero,List.set_cons_succ]
          refine wpAnyH_take (i:=19) (oi:=_) (v:=?_) rfl (by kernel_rfl) (by kernel_rfl) (by kernel_rfl) (fun _ _ _ h=>h) (Or.inl ⟨by rfl,?_⟩) (by assumption) ?_;rotate_left
          focus (intro z a;(try dsimp only at a);go_simp;try with_reducible rfl)
          try simp only[Act.put,List.setIfInBounds_toArray,List.set_cons_zero,List.set_cons_succ]
          refine wpAnyH_ready (rs:=[20]) (by kernel_rfl) (by simp) ?_;refine AllReadyH.cons (o:=_) (lq rfl) (fun K l=>?_) ?_
          focus
           go_simp;refine l.out _ _ ?_ (fun f=>?_);focus ((try dsimp only);exact⟨li (t:=26) cC,nx (t:=35) cC,by go_simp⟩)
           clear l K;try simp only[Act.put,List.setIfInBounds_toArray,List.set_cons_zero,List.set_cons_succ]
           refine wpAnyH_done (by kernel_rfl) ?_ _;refine NoPanic.normal ?_;go_wp2_with fail;go_roundw
           all_goals first|exact⟨k+1,by omega,rfl,YE⟩|exact(by first|(simp[intOf];done)|(simp[intOf];omega))
          exact AllReadyH.nil
         exact AllReadyH.nil
        exact AllReadyH.nil
       exact AllReadyH.nil
      exact AllReadyH.nil
     refine AllReadyH.cons (o:=_) (lq rfl) (fun K l=>?_) ?_
     focus
      go_simp;(go_at_call 56;refine(e7.out _ ad).mono ?_;rintro e w6 ⟨gN,L,rfl,hN,C⟩;have a7:=C.size;(try simp at a7);have b5:=bq C (g);have g2:Blk w6 w.heap.size #[N,V,W,U,R,Q,O,X,Y,T,p] 26:=(by refine Blk.keep ?_ C;exact cC);have g5:Blk w6 wr.heap.size #[Z,e2,e3,e4,e5] 35:=(by refine Blk.keep ?_ C;exact cC));try go_wp2_with fail
      refine l.out _ _ ?_ (fun f=>?_);focus ((try dsimp only);exact⟨li (t:=26) cC,nx (t:=35) cC,by go_simp⟩)
      clear l K;try simp only[Act.put,List.setIfInBounds_toArray,List.set_cons_zero,List.set_cons_succ]
      refine wpAnyH_ready (rs:=[9,14]) (by kernel_rfl) (by simp) ?_;refine AllReadyH.cons (o:=_) (lq rfl) (fun K l=>?_) ?_
      focus
       go_simp;refine l.out _ _ ?_ (fun f=>?_);focus ((try dsimp only);exact⟨li (t:=26) cC,nx (t:=35) cC,by go_simp⟩)
       clear l K;try simp only[Act.put,List.setIfInBounds_toArray,List.set_cons_zero,List.set_cons_succ]
       refine wpAnyH_ready (rs:=[14]) (by kernel_rfl) (by simp) ?_;refine AllReadyH.cons (o:=_) (lq rfl) (fun K l=>?_) ?_
       focus
        go_simp;refine l.out _ _ ?_ (fun f=>?_);focus ((try dsimp only);exact⟨li (t:=26) cC,nx (t:=35) cC,by go_simp⟩)
        clear l K;try simp only[Act.put,List.setIfInBounds_toArray,List.set_cons_zero,List.set_cons_succ]
        refine wpAnyH_ready (rs:=[15]) (by kernel_rfl) (by simp) ?_;refine AllReadyH.cons (o:=_) (lq rfl) (fun K l=>?_) ?_
        focus
         (refine na rfl (.tmp 50) (.tmp 55) 70 rfl 0 43 i0 (.pointer none) 1 8 underlying70 hi c3 c0 b9 rfl (by decide) (.slice an k cn) k (gs.map ptr) (by simp[Act.eval,Act.put]) (cv c5.out (show Below _ _ _ from ad)) ⟨w6.heap.size,0,none⟩ 1 1 [ptr gN] (by simp[Act.eval,Act.put]) rfl (te (Blk.new _ _ 43)) (JP gN) (by unfold maxLen;omega) (by omega) (by simp) ?_;intro v' w5 m d G;obtain⟨g',b7,rfl⟩:=xB m (by omega);obtain⟨H,⟨yb,yc⟩,yd,ye,yf,yg⟩:=JU (k:=k) n.out c4.out M (by exact(show Below _ _ _ from ad)) d;have d7:Blk w5 w.heap.size #[N,V,W,U,R,Q,O,X,Y,T,p] 26:=zN n.out (show Blk _ _ _ _ from cC) (by decide) (show Below _ _ _ from ad) d;have b8:Blk w5 wr.heap.size #[Z,e2,e3,e4,e5] 35:=zN n.out (show Blk _ _ _ _ from cC) (by decide) (show Below _ _ _ from ad) d;have yq:=H.cell (i:=13) (v:=.slice an k cn) rfl;have e9:=H.cell (i:=14) (v:=.slice (some ⟨ob,0,none⟩) N co) rfl;have d5:=H.frozen;have d3:=H.lt;have YE:=Lh (JV (N:=N) (w:=w) (cb:=w.heap.size) B.out.1 n.out M a9.out a6.out b1.out c9.out (by exact(show Below _ _ _ from ad)) hN (by exact(show Below _ _ _ from ad)) m d G);clear m d G H)
         refine l.out _ _ ?_ (fun f=>?_);focus ((try dsimp only);exact⟨li (t:=26) cC,nx (t:=35) cC,by go_simp⟩)
         clear l K;try simp only[Act.put,List.setIfInBounds_toArray,List.set_cons_zero,List.set_cons_succ]
         refine wpAnyH_take (i:=16) (oi:=_) (v:=?_) rfl (by kernel_rfl) (by kernel_rfl) (by kernel_rfl) (fun _ _ _ h=>h) (Or.inl ⟨by rfl,?_⟩) (by assumption) ?_;rotate_left
         focus (intro z a;(try dsimp only at a);go_simp;try with_reducible rfl)
         try simp only[Act.put,List.setIfInBounds_toArray,List.set_cons_zero,List.set_cons_succ]
         refine wpAnyH_take (i:=17) (oi:=_) (v:=?_) rfl (by kernel_rfl) (by kernel_rfl) (by kernel_rfl) (fun _ _ _ h=>h) (Or.inl ⟨by rfl,?_⟩) (by assumption) ?_;rotate_left
         focus (intro z a;(try dsimp only at a);go_simp;try with_reducible rfl)
         try simp only[Act.put,List.setIfInBounds_toArray,List.set_cons_zero,List.set_cons_succ]
         refine wpAnyH_ready (rs:=[18]) (by kernel_rfl) (by simp) ?_;refine AllReadyH.cons (o:=_) (lq rfl) (fun K l=>?_) ?_
         focus
          go_simp;refine l.out _ _ ?_ (fun f=>?_);focus ((try dsimp only);exact⟨li (t:=26) cC,nx (t:=35) cC,by go_simp⟩)
          clear l K;try simp only[Act.put,List.setIfInBounds_toArray,List.set_cons_zero,List.set_cons_succ]
          refine wpAnyH_take (i:=19) (oi:=_) (v:=?_) rfl (by kernel_rfl) (by kernel_rfl) (by kernel_rfl) (fun _ _ _ h=>h) (Or.inl ⟨by rfl,?_⟩) (by assumption) ?_;rotate_left
          focus (intro z a;(try dsimp only at a);go_simp;try with_reducible rfl)
          try simp only[Act.put,List.setIfInBounds_toArray,List.set_cons_zero,List.set_cons_succ]
          refine wpAnyH_ready (rs:=[20]) (by kernel_rfl) (by simp) ?_;refine AllReadyH.cons (o:=_) (lq rfl) (fun K l=>?_) ?_
          focus
           go_simp;refine l.out _ _ ?_ (fun f=>?_);focus ((try dsimp only);exact⟨li (t:=26) cC,nx (t:=35) cC,by go_simp⟩)
           clear l K;try simp only[Act.put,List.setIfInBounds_toArray,List.set_cons_zero,List.set_cons_succ]
           refine wpAnyH_done (by kernel_rfl) ?_ _;refine NoPanic.normal ?_;go_wp2_with fail;go_roundw
           all_goals first|exact⟨k+1,by omega,rfl,YE⟩|exact(by first|(simp[intOf];done)|(simp[intOf];omega))
          exact AllReadyH.nil
         exact AllReadyH.nil
        exact AllReadyH.nil
       exact AllReadyH.nil
      refine AllReadyH.cons (o:=_) (lq rfl) (fun K l=>?_) ?_
      focus
       go_simp;refine l.out _ _ ?_ (fun f=>?_);focus ((try dsimp only);exact⟨li (t:=26) cC,nx (t:=35) cC,by go_simp⟩)
       clear l K;try simp only[Act.put,List.setIfInBounds_toArray,List.set_cons_zero,List.set_cons_succ]
       refine wpAnyH_ready (rs:=[9]) (by kernel_rfl) (by simp) ?_;refine AllReadyH.cons (o:=_) (lq rfl) (fun K l=>?_) ?_
       focus
        go_simp;refine l.out _ _ ?_ (fun f=>?_);focus ((try dsimp only);exact⟨li (t:=26) cC,nx (t:=35) cC,by go_simp⟩)
        clear l K;try simp only[Act.put,List.setIfInBounds_toArray,List.set_cons_zero,List.set_cons_succ]
        refine wpAnyH_ready (rs:=[15]) (by kernel_rfl) (by simp) ?_;refine AllReadyH.cons (o:=_) (lq rfl) (fun K l=>?_) ?_
        focus
         (refine na rfl (.tmp 50) (.tmp 55) 70 rfl 0 43 i0 (.pointer none) 1 8 underlying70 hi c3 c0 b9 rfl (by decide) (.slice an k cn) k (gs.map ptr) (by simp[Act.eval,Act.put]) (cv c5.out (show Below _ _ _ from ad)) ⟨w6.heap.size,0,none⟩ 1 1 [ptr gN] (by simp[Act.eval,Act.put]) rfl (te (Blk.new _ _ 43)) (JP gN) (by unfold maxLen;omega) (by omega) (by simp) ?_;intro v' w5 m d G;obtain⟨g',b7,rfl⟩:=xB m (by omega);obtain⟨H,⟨yb,yc⟩,yd,ye,yf,yg⟩:=JU (k:=k) n.out c4.out M (by exact(show Below _ _ _ from ad)) d;have d7:Blk w5 w.heap.size #[N,V,W,U,R,Q,O,X,Y,T,p] 26:=zN n.out (show Blk _ _ _ _ from cC) (by decide) (show Below _ _ _ from ad) d;have b8:Blk w5 wr.heap.size #[Z,e2,e3,e4,e5] 35:=zN n.out (show Blk _ _ _ _ from cC) (by decide) (show Below _ _ _ from ad) d;have yq:=H.cell (i:=13) (v:=.slice an k cn) rfl;have e9:=H.cell (i:=14) (v:=.slice (some ⟨ob,0,none⟩) N co) rfl;have d5:=H.frozen;have d3:=H.lt;have YE:=Lh (JV (N:=N) (w:=w) (cb:=w.heap.size) B.out.1 n.out M a9.out a6.out b1.out c9.out (by exact(show Below _ _ _ from ad)) hN (by exact(show Below _ _ _ from ad)) m d G);clear m d G H)
         refine l.out _ _ ?_ (fun f=>?_);focus ((try dsimp only);exact⟨li (t:=26) cC,nx (t:=35) cC,by go_simp⟩)
         clear l K;try simp only[Act.put,List.setIfInBounds_toArray,List.set_cons_zero,List.set_cons_succ]
         refine wpAnyH_take (i:=16) (oi:=_) (v:=?_) rfl (by kernel_rfl) (by kernel_rfl) (by kernel_rfl) (fun _ _ _ h=>h) (Or.inl ⟨by rfl,?_⟩) (by assumption) ?_;rotate_left
         focus (intro z a;(try dsimp only at a);go_simp;try with_reducible rfl)
         try simp only[Act.put,List.setIfInBounds_toArray,List.set_cons_zero,List.set_cons_succ]
         refine wpAnyH_take (i:=17) (oi:=_) (v:=?_) rfl (by kernel_rfl) (by kernel_rfl) (by kernel_rfl) (fun _ _ _ h=>h) (Or.inl ⟨by rfl,?_⟩) (by assumption) ?_;rotate_left
         focus (intro z a;(try dsimp only at a);go_simp;try with_reducible rfl)
         try simp only[Act.put,List.setIfInBounds_toArray,List.set_cons_zero,List.set_cons_succ]
         refine wpAnyH_ready (rs:=[18]) (by kernel_rfl) (by simp) ?_;refine AllReadyH.cons (o:=_) (lq rfl) (fun K l=>?_) ?_
         focus
          go_simp;refine l.out _ _ ?_ (fun f=>?_);focus ((try dsimp only);exact⟨li (t:=26) cC,nx (t:=35) cC,by go_simp⟩)
          clear l K;try simp only[Act.put,List.setIfInBounds_toArray,List.set_cons_zero,List.set_cons_succ]
          refine wpAnyH_take (i:=19) (oi:=_) (v:=?_) rfl (by kernel_rfl) (by kernel_rfl) (by kernel_rfl) (fun _ _ _ h=>h) (Or.inl ⟨by rfl,?_⟩) (by assumption) ?_;rotate_left
          focus (intro z a;(try dsimp only at a);go_simp;try with_reducible rfl)
          try simp only[Act.put,List.setIfInBounds_toArray,List.set_cons_zero,List.set_cons_succ]
          refine wpAnyH_ready (rs:=[20]) (by kernel_rfl) (by simp) ?_;refine AllReadyH.cons (o:=_) (lq rfl) (fun K l=>?_) ?_
          focus
           go_simp;refine l.out _ _ ?_ (fun f=>?_);focus ((try dsimp only);exact⟨li (t:=26) cC,nx (t:=35) cC,by go_simp⟩)
           clear l K;try simp only[Act.put,List.setIfInBounds_toArray,List.set_cons_zero,List.set_cons_succ]
           refine wpAnyH_done (by kernel_rfl) ?_ _;refine NoPanic.normal ?_;go_wp2_with fail;go_roundw
           all_goals first|exact⟨k+1,by omega,rfl,YE⟩|exact(by first|(simp[intOf];done)|(simp[intOf];omega))
          exact AllReadyH.nil
         exact AllReadyH.nil
        exact AllReadyH.nil
       exact AllReadyH.nil
      exact AllReadyH.nil
     exact AllReadyH.nil
   ·have g1:k=N:=by omega
    subst g1;have k1:¬((k:Int)<(k:Int)):=by omega
    obtain⟨a0,gs,nv,bv,s,A,h0,F,b0⟩:=HK.out;have n:=Lh s;have a9:=Lh A;have a6:=Lh h0;clear s A h0 F b0 HK;go_wp2_with fail;go_ret2
    refine⟨g,rfl,tw,ta,gs,nv,bv,a0,?_,a9.out,a6.out⟩;have:=n.out;rw[NH E k B.out.1] at this;rw[b3.out];exact this
def SL:Cfg:=⟨5,4,10,2,1,10,50,200,5,6,1000000000000⟩
def Az:Nat->FleetD->FleetD
 | 0,F=>F
 | k+1,F=>Az k (F.deliver 0).1
def F0:FleetD:=.new SL
def F1:FleetD:=F0.tick.1
def F2:FleetD:=F1.tick.1
def F3:FleetD:=Az 20 F2
abbrev Qq:Array Value:=#[.int .i64 5,.int .i64 4,.int .i64 10,.int .i64 2,.int .i64 1,.int .i64 10,.int .i64 50,.int .i64 200,.int .i64 5,.int .i64 6,.int .i64 1000000000000]
theorem Lc:SL.may=true:=by kernel_rfl
theorem Qp(w:World):zR 48 #[] w (.agg Qq):=by
 go_enter func48,ntmps48;go_wp2_with fail;exact ak 11 Qq rfl rfl rfl underlying26 rfl (by kernel_rfl) (ek 10 _ rfl (by intro i a;rcases i with _|_|_|_|_|_|_|_|_|_|_|i;(go_simp);(go_simp);(go_simp);(go_simp);(go_simp);(go_simp);(go_simp);(go_simp);(go_simp);(go_simp);(go_simp);exact absurd a (by omega))) ⟨rfl,ad⟩
theorem Qm(w:World):Calls prog 21 #[] w fun e m=>∃c,e=.returned (ptr c)/\∃g tw h l nv i,lh w c g tw h l nv i 5 F0 m:=by
 have q:Hid (∀b,Calls prog 23 #[.agg Qq] b fun e m=>∃g,e=.returned (.tuple #[ptr g,.int .i64 0])/\∃tw h l nv i a,cY a m g tw h l nv i F0/\zB b m/\∀j,j<b.heap.size->a j=0):=fun b=>IW SL Lc b;go_enter func21,ntmps21;go_wp2_with fail;refine(Qp _).mono ?_;rintro e b ⟨rfl,k⟩;go_wp2_with fail;refine(q.out _).mono ?_;rintro e s ⟨g,rfl,tw,h,l,nv,i,a,hF,d,o⟩;have f:=d.size;(try simp at f);have n:=bq d (b.heap.size);have p:=Lh hF;have r:=Lh o;clear hF o;go_wp2_with fail;have u:=k.size;have x:=d.size;go_ret;refine⟨_,rfl,g,tw,h,l,nv,i,ext a s.heap.size 0,p.out.below ((Below.refl _ _).alloc (Nat.le_refl _) _) 0,Blk.new _ _ _,?_,ad,fun j v=>?_⟩
 ·unfold ext;rw[if_neg (by omega)]
 ·have t:=k.size;exact(gS (by omega)).trans (r.out j (by simp;omega))
section
variable {S:Nat->Prop} {w w':World} {g:Nat} {L:NLay} {n:NodeD}
theorem NodeAt.OP(h:NodeAt S w g L n)(j:ah L.f w w'){v:Bool}{e:El}(p:Blk w' L.f (flt n.cap v e.x e.y e.a e.b e.d) 119):NodeAt S w' g L {n with fv:=v,fe:=e}:=
 have K {k:Nat} {c:Array Value} {t:TypeId} (m:Blk w k c t) (q:t≠119):Blk w' k c t:=j.blk m (Blk.ne m h.f q)
 ⟨K h.blk (by decide),h.sg,p,h.sf,h.t.only j h.f (by decide) (by decide),fun i o=>⟨K (h.s i o).1 (by decide),(h.s i o).2⟩,h.si,K h.b (by decide),h.sb,K h.tm (by decide),h.stm⟩
end
abbrev tyH:List TypeId:=[81,239,203,195,245,119]
structure HQ (S:Nat->Prop) (g s:Nat) (L:NLay) (now fine:Int) (w w':World) (n:NodeD) (l:List ky):Prop where
 t:aa S tyH true w w'
 n:NodeAt S w' g L n
 s:uA S w' s g now fine l
section
variable {S:Nat->Prop} {g s:Nat} {L:NLay} {now fine:Int} {w w1 w2:World} {n n2:NodeD} {l l2:List ky}
theorem HQ.trans(h:HQ S g s L now fine w w1 n l)(h2:HQ S g s L now fine w1 w2 n2 l2):HQ S g s L now fine w w2 n2 l2:=⟨h.t.trans h2.t (fun _ _ h=>h),h2.n,h2.s⟩
theorem HQ.refl(h:NodeAt S w g L n)(a:uA S w s g now fine l):HQ S g s L now fine w w n l:=⟨aa.refl,h,a⟩
theorem HQ.below(h:HQ S g s L now fine w w1 n l)(hb:zB w1 w2):HQ S g s L now fine w w2 n l:=
 ⟨h.t.trans (aa.of_below (S:=S) hb) (fun _ _ h=>h),h.n.below hb,h.s.nr (aa.of_below (S:=S) (ty:=[]) (mp:=false) hb) (by simp) (by simp)⟩
theorem NQ.hq(h:NQ S g s L now fine w w1 n l):HQ S g s L now fine w w1 n l:=⟨h.t.mono (fun _ _ h=>h) (fun t a=>(List.mem_append_left [119] a:t∈tyS++[119])) (fun h=>by cases h),h.n,h.s⟩
theorem HQ.map(h:HQ S g s L now fine w w1 n l)(a:aa S [] true w1 w2)(b:NodeAt S w2 g L n2):HQ S g s L now fine w w2 n2 l:=
 ⟨h.t.trans (a.mono (fun _ _ h=>h) (by simp) (fun h=>h)) (fun _ _ h=>h),b,h.s.nr a (by simp) (by simp)⟩
theorem HQ.filt(h:HQ S g s L now fine w w1 n l)(c:ah L.f w1 w2){v:Bool}{e:El}(hb:Blk w2 L.f (flt n.cap v e.x e.y e.a e.b e.d) 119):HQ S g s L now fine w w2 {n with fv:=v,fe:=e} l:=by
 have T:aa S [119] false w1 w2:=aa.cU c h.n.f (by simp) h.n.sf;exact⟨h.t.trans (T.mono (fun _ _ h=>h) (by simp) (fun h=>(by cases h))) (fun _ _ h=>h),h.n.OP c hb,h.s.nr T (by decide) (by decide)⟩
end
theorem nn{P:Program}{m:Func}{R:Ending->World->Prop}{a:Act}{w:World}{p u i:Tmp}{b:TypeId}{g:Nat}(n:Nat)(e:Array Value)(v c:Value){d:TypeDesc}(h:m.results=#[.cell p b,.tmp u,.tmp i])(j:a.defers=[])(y:a.tmps.getD p undef=.pointer (some ⟨g,0,none⟩))(r:a.tmps.getD u undef=v)(f:a.tmps.getD i undef=c)(C:P.underlying b=some d)(t:d.isRow=true)(x:(P.info? b).map (·.size)=some n)(q:w.row? g 0 n=some e)(z:R (.returned (.tuple #[.agg e,v,c])) w):bodyPost P m R .ret a w:=by
 refine bodyPost_ret (v:=.tuple #[.agg e,v,c]) ?_ j z;have o:=run_loadVar_row? (P:=P) w g 0 n b e d C t x q;have A:a.tmps[p]?.getD undef=.pointer (some ⟨g,0,none⟩):=by simpa using y
 have l:a.tmps[u]?.getD undef=v:=by simpa using r
 have k:a.tmps[i]?.getD undef=c:=by simpa using f
 simp[results,h,A,l,k,asAddr,o]
section
variable (g:Nat) (w:World) (s:cZ) (B:Blk w g (xX s) 245)
include B
theorem JN(a b:Int):Calls prog 314 #[ptr g,a,b] w fun e v=>e=.returned (.bool (s.gotResp a b).2)/\ah g w v/\Blk v g (xX (s.gotResp a b).1) 245:=by
 obtain⟨⟨o,d,n,c,l⟩,k,h,i,f,j⟩:=s;have p:=Lh B;obtain⟨C,A,D,-⟩:=cz B;clear B;by_cases t:c=b
 ·subst t;by_cases r:o=1
  ·subst r;cases h3:ot a with
   | false=>
    have m:Hid (cZ.gotResp ⟨⟨1,d,n,c,l⟩,k,h,i,f,j⟩ a c=(⟨⟨1,d,n,c,l⟩,k,h,i,f,j⟩,false)):=by show _=_;simp[cZ.gotResp,HalfD.answer,h3]
    have q:=Lh h3;clear h3;go_enter func314,ntmps314;go_wp2_with (first|(go_at_call 300;refine(ny _ _ q.out _).mono ?_;rintro e u ⟨rfl,rfl⟩)|go_in)
    go_ret;rw[m.out];exact⟨rfl,ah.refl,p.out⟩
   | true=>
    have q:=Lh h3;by_cases x:a<d
    ·have m:Hid (cZ.gotResp ⟨⟨1,d,n,c,l⟩,k,h,i,f,j⟩ a c=(⟨⟨1,d,n,c,l⟩,k,h,i,f,j⟩,false)):=by show _=_;simp[cZ.gotResp,HalfD.answer,x]
     clear h3;go_enter func314,ntmps314;go_wp2_with (first|(go_at_call 300;refine(ny _ _ q.out _).mono ?_;rintro e u ⟨rfl,rfl⟩)|go_in)
     go_ret;rw[m.out];exact⟨rfl,ah.refl,p.out⟩
    ·have m:Hid (cZ.gotResp ⟨⟨1,d,n,c,l⟩,k,h,i,f,j⟩ a c=(⟨⟨2,d,a,c,l⟩,k,h,i,f,j⟩,true)):=by show _=_;simp[cZ.gotResp,HalfD.answer,h3,x]
     clear h3;go_enter func314,ntmps314;go_wp2_with (first|(go_at_call 300;refine(ny _ _ q.out _).mono ?_;rintro e u ⟨rfl,rfl⟩)|go_in)
     go_ret;rw[m.out];exact⟨rfl,(ah.refl.setCell 0 _).setCell 2 _,((p.out.ab 0 _).ab 2 _).of_eq rfl⟩
  ·have m:Hid (cZ.gotResp ⟨⟨o,d,n,c,l⟩,k,h,i,f,j⟩ a c=(⟨⟨o,d,n,c,l⟩,k,h,i,f,j⟩,false)):=by show _=_;simp[cZ.gotResp,HalfD.answer,r]
   have y:(o != 1)=true:=by simp[r]
   go_enter func314,ntmps314;go_wp2_with (first|go_in)
   go_ret;rw[m.out];exact⟨rfl,ah.refl,p.out⟩
 ·have m:Hid (cZ.gotResp ⟨⟨o,d,n,c,l⟩,k,h,i,f,j⟩ a b=(⟨⟨o,d,n,c,l⟩,k,h,i,f,j⟩,false)):=by show _=_;simp[cZ.gotResp,t]
  have z:(c==b)=false:=by simp[t]
  go_enter func314,ntmps314;go_wp2_with fail;go_ret;rw[m.out];exact⟨rfl,ah.refl,p.out⟩
theorem Lw(a:Int)(I:0<=s.ask.fr/\s.ask.fr<=70368744177664/\0<=s.ask.til/\s.ask.til<=70368744177664):Calls prog 315 #[ptr g,a] w fun e H=>e=.returned (.tuple #[.int .i64 (s.final a).2.1,.int .i64 (s.final a).2.2.1,.bool (s.final a).2.2.2])/\ah g w H/\Blk H g (xX (s.final a).1) 245:=by
 obtain⟨⟨x,c,b,n,o⟩,m,j,k,f,l⟩:=s;have y:=Lh B;obtain⟨T,Q,f1,-⟩:=cz B;simp only at I;obtain⟨W,X,R,Z⟩:=I;clear B;by_cases C:x=2
 ·subst C;cases h3:ot a with
  | false=>
   have p:Hid (cZ.final ⟨⟨2,c,b,n,o⟩,m,j,k,f,l⟩ a=(⟨⟨2,c,b,n,o⟩,m,j,k,f,l⟩,(0,0,false))):=by show _=_;simp[cZ.final,HalfD.ends,h3]
   have r:=Lh h3;clear h3;go_enter func315,ntmps315;go_wp2_with (first|(go_at_call 300;refine(ny _ _ r.out _).mono ?_;rintro e F ⟨rfl,rfl⟩)|go_in)
   go_ret3
   rw[p.out];exact⟨rfl,ah.refl,y.out⟩
  | true=>
   have r:=Lh h3;have A:0<=a/\a<=70368744177664:=by simpa [ot] using h3
   obtain⟨k1,Y⟩:=A;by_cases z:b<=a
   ·have p:Hid (cZ.final ⟨⟨2,c,b,n,o⟩,m,j,k,f,l⟩ a=(⟨.zero,m,j,k,f,l⟩,(b-c,a-b,true))):=by show _=_;simp[cZ.final,HalfD.ends,h3,z]
    have L:(!decide (b<=a))=false:=by simp[z]
    have P:IntKind.i64.wrap (b-c)=b-c:=IntWalk.i64_in _ (by omega);have U:IntKind.i64.wrap (a-b)=a-b:=IntWalk.i64_in _ (by omega);clear h3;go_enter func315,ntmps315;go_wp2_with (first|(go_at_call 300;refine(ny _ _ r.out _).mono ?_;rintro e F ⟨rfl,h⟩;have N:=h.symm;subst N)|go_in)
    refine eN ?_;intro u t;have G:Hid (Blk u w.heap.size #[.int .i64 2,c,b,n,o] 243):=by rw[t];exact Blk.new' _ _ _ (by simp)
    have M:Hid (Blk u g (xX ⟨.zero,m,j,k,f,l⟩) 245):=by rw[t];exact(Blk.alloc (Iy 0 y.out _ _ _ _ _) _).of_eq rfl
    have J:Hid (ah g w u):=by rw[t];exact(show ah _ _ _ from dY)
    have O:=fun d D=>cell_regrown (G.out.cell (i:=1) (v:=.int .i64 c) rfl) d D;have S:=fun d D=>cell_regrown (G.out.cell (i:=2) (v:=.int .i64 b) rfl) d D;clear t;refine wp_region_quiet_below (by kernel_rfl) (by kernel_rfl) ?_;repeat (go_big_quiet_step (fail))
    refine wpQuiet_nil ?_;intro V E;have q:=ay E;go_wp2_with fail;go_ret3
    rw[p.out];exact⟨rfl,J.out.trans (ah.of_below q),M.out.keep q⟩
   ·have p:Hid (cZ.final ⟨⟨2,c,b,n,o⟩,m,j,k,f,l⟩ a=(⟨⟨2,c,b,n,o⟩,m,j,k,f,l⟩,(0,0,false))):=by show _=_;simp[cZ.final,HalfD.ends,z]
    have L:(!decide (b<=a))=true:=by simp only[z,decide_false,Bool.not_false]
    clear h3;go_enter func315,ntmps315;go_wp2_with (first|(go_at_call 300;refine(ny _ _ r.out _).mono ?_;rintro e F ⟨rfl,rfl⟩)|go_in)
    go_ret3
    rw[p.out];exact⟨rfl,ah.refl,y.out⟩
 ·have p:Hid (cZ.final ⟨⟨x,c,b,n,o⟩,m,j,k,f,l⟩ a=(⟨⟨x,c,b,n,o⟩,m,j,k,f,l⟩,(0,0,false))):=by show _=_;simp[cZ.final,HalfD.ends,C]
  have K:(x==2)=false:=by simp[C]
  go_enter func315,ntmps315;go_wp2_with (first|go_in)
  go_ret3
  rw[p.out];exact⟨rfl,ah.refl,y.out⟩
theorem MW(b a:Int):Calls prog 313 #[ptr g,b,a] w fun e u=>e=.returned (.bool (s.resp b a).2)/\ah g w u/\Blk u g (xX (s.resp b a).1) 245:=by
 obtain⟨⟨i,d,j,f,k⟩,q,c,n,l,h⟩:=s;have p:=Lh B;obtain⟨z,y,A,-⟩:=cz B;clear B;by_cases r:q=1
 ·subst r;cases h3:ot b with
  | false=>
   have m:Hid (cZ.resp ⟨⟨i,d,j,f,k⟩,1,c,n,l,h⟩ b a=(⟨⟨i,d,j,f,k⟩,1,c,n,l,h⟩,false)):=by show _=_;simp[cZ.resp,HalfD.answer,h3]
   have o:=Lh h3;clear h3;go_enter func313,ntmps313;go_wp2_with (first|(go_at_call 300;refine(ny _ _ o.out _).mono ?_;rintro e t ⟨rfl,rfl⟩)|go_in)
   go_ret;rw[m.out];exact⟨rfl,ah.refl,p.out⟩
  | true=>
   have o:=Lh h3;by_cases v:b<c
   ·have m:Hid (cZ.resp ⟨⟨i,d,j,f,k⟩,1,c,n,l,h⟩ b a=(⟨⟨i,d,j,f,k⟩,1,c,n,l,h⟩,false)):=by show _=_;simp[cZ.resp,HalfD.answer,v]
    clear h3;go_enter func313,ntmps313;go_wp2_with (first|(go_at_call 300;refine(ny _ _ o.out _).mono ?_;rintro e t ⟨rfl,rfl⟩)|go_in)
    go_ret;rw[m.out];exact⟨rfl,ah.refl,p.out⟩
   ·have m:Hid (cZ.resp ⟨⟨i,d,j,f,k⟩,1,c,n,l,h⟩ b a=(⟨⟨i,d,j,f,k⟩,2,c,b,a,h⟩,true)):=by show _=_;simp[cZ.resp,HalfD.answer,h3,v]
    clear h3;go_enter func313,ntmps313;go_wp2_with (first|(go_at_call 300;refine(ny _ _ o.out _).mono ?_;rintro e t ⟨rfl,rfl⟩)|go_in)
    go_ret;rw[m.out];exact⟨rfl,((ah.refl.setCell 5 _).setCell 7 _).setCell 8 _,(((p.out.ab 5 _).ab 7 _).ab 8 _).of_eq rfl⟩
 ·have m:Hid (cZ.resp ⟨⟨i,d,j,f,k⟩,q,c,n,l,h⟩ b a=(⟨⟨i,d,j,f,k⟩,q,c,n,l,h⟩,false)):=by show _=_;simp[cZ.resp,HalfD.answer,r]
  have x:(q != 1)=true:=by simp[r]
  go_enter func313,ntmps313;go_wp2_with (first|go_in)
  go_ret;rw[m.out];exact⟨rfl,ah.refl,p.out⟩
theorem Jd(a r n b:Int)(T:0<=s.tell.fr/\s.tell.fr<=70368744177664/\0<=s.tell.til/\s.tell.til<=70368744177664)(F:cZ)(H I N K sp:Int)(L:Bool)(f:s.gotFinal a r n b=(F,(⟨H,I,N,K⟩,sp,L))):Calls prog 316 #[ptr g,a,r,n,b] w fun e R=>e=.returned (.tuple #[.agg #[H,I,N,K],sp,L])/\ah g w R/\Blk R g (xX F) 245:=by
 obtain⟨⟨y,t,C,x,D⟩,A,k,c,j,l⟩:=s;have m:=Lh B;obtain⟨Q,P,U,-⟩:=cz B;simp only at T;obtain⟨b1,b2,b3,b4⟩:=T;clear B
 have no:(j≠b∨HalfD.ends ⟨A,k,c,j,l⟩ a=false)->F=⟨⟨y,t,C,x,D⟩,A,k,c,j,l⟩/\H=0/\I=0/\N=0/\K=0/\sp=0/\L=false:=by
  intro h;unfold cZ.gotFinal at f;rw[if_neg (by rintro⟨q1,q2⟩;rcases h with h|h;exact h q1;exact absurd (q2.symm.trans h) (by decide))] at f;injection f with q1 q2
  injection q2 with q2 q3
  injection q2 with q21 q22 q23 q24
  injection q3 with q3 q4
  exact⟨q1.symm,q21.symm,q22.symm,q23.symm,q24.symm,q3.symm,q4.symm⟩
 by_cases M:j=b
 ·subst M;by_cases G:A=2
  ·subst G;cases h3:ot a with
   | false=>
    obtain⟨rfl,rfl,rfl,rfl,rfl,rfl,rfl⟩:=no (.inr (by simp[HalfD.ends,h3]));have v:=Lh h3;clear h3 f no;go_enter func316,ntmps316;go_wp2_with (first|(go_at_call 300;refine(ny _ _ v.out _).mono ?_;rintro e O ⟨rfl,h⟩;have q:=h.symm;subst q)|go_in)
    exact nn 4 #[.int .i64 0,.int .i64 0,.int .i64 0,.int .i64 0] (.int .i64 0) (.bool false) rfl rfl rfl rfl rfl underlying385 rfl (by kernel_rfl) (ek 3 _ rfl (by intro i d;rcases i with _|_|_|_|i;(go_simp);(go_simp);(go_simp);(go_simp);exact absurd d (by omega))) ⟨rfl,ah.of_below ad,m.out.alloc _⟩
   | true=>
    have v:=Lh h3;have E:0<=a/\a<=70368744177664:=by simpa [ot] using h3
    obtain⟨k1,k2⟩:=E;by_cases z:c<=a
    ·have o:cZ.gotFinal ⟨⟨y,t,C,x,D⟩,2,k,c,j,l⟩ a r n j=(⟨⟨y,t,C,x,D⟩,.zero⟩,(⟨r,c-k,n,a-c⟩,l,true)):=by simp[cZ.gotFinal,HalfD.ends,h3,z]
     rw[o] at f;injection f with q1 q2
     injection q2 with q2 q3
     injection q2 with q21 q22 q23 q24
     injection q3 with q3 q4
     subst q1;subst q21;subst q22;subst q23;subst q24;subst q3;subst q4;have Y:(!decide (c<=a))=false:=by simp[z]
     have e1:IntKind.i64.wrap (c-k)=c-k:=IntWalk.i64_in _ (by omega);have e2:IntKind.i64.wrap (a-c)=a-c:=IntWalk.i64_in _ (by omega);clear h3 o no;go_enter func316,ntmps316;go_wp2_with (first|(go_at_call 300;refine(ny _ _ v.out _).mono ?_;rintro e O ⟨rfl,h⟩;have q:=h.symm;subst q)|go_in)
     refine eN ?_;intro u p;have S:Hid (Blk u w.heap.size #[.int .i64 0,.int .i64 0,.int .i64 0,.int .i64 0] 385):=by rw[p];exact(Blk.new' _ _ _ (by simp)).alloc _
     have UT:Hid (Blk u (w.heap.size+1) #[.int .i64 2,k,c,j,l] 243):=by rw[p];exact Blk.new' _ _ _ (by simp)
     have J:Hid (Blk u g (xX ⟨⟨y,t,C,x,D⟩,.zero⟩) 245):=by rw[p];exact(Blk.alloc (Blk.alloc (Iy 5 m.out _ _ _ _ _) _) _).of_eq rfl
     have V:Hid (ah g w u):=by rw[p];exact(show ah _ _ _ from dY)
     clear p m Q P U;obtain⟨Q,P,U,-⟩:=cz S.out;obtain⟨y2,c2,f2,-⟩:=cz UT.out;have a0:=J.out.lt;have ng:¬(g=w.heap.size):=Blk.ne J.out S.out (by decide);go_region
     go_wp2_with fail;refine nn 4 #[.int .i64 r,.int .i64 (c-k),.int .i64 n,.int .i64 (a-c)] (.int .i64 l) (.bool true) rfl rfl rfl rfl rfl underlying385 rfl (by kernel_rfl) (ek 3 _ rfl (by intro i d;rcases i with _|_|_|_|i;(go_simp);(go_simp);(go_simp);(go_simp);exact absurd d (by omega))) ⟨rfl,?_,?_⟩
     ·have Z:=V.out;exact dY
     ·exact ah.blk (g:=w.heap.size) (show ah _ u _ from dY) J.out ng
    ·obtain⟨rfl,rfl,rfl,rfl,rfl,rfl,rfl⟩:=no (.inr (by simp[HalfD.ends,z]));have Y:(!decide (c<=a))=true:=by simp only[z,decide_false,Bool.not_false]
     clear h3 f no;go_enter func316,ntmps316;go_wp2_with (first|(go_at_call 300;refine(ny _ _ v.out _).mono ?_;rintro e O ⟨rfl,h⟩;have q:=h.symm;subst q)|go_in)
     exact nn 4 #[.int .i64 0,.int .i64 0,.int .i64 0,.int .i64 0] (.int .i64 0) (.bool false) rfl rfl rfl rfl rfl underlying385 rfl (by kernel_rfl) (ek 3 _ rfl (by intro i d;rcases i with _|_|_|_|i;(go_simp);(go_simp);(go_simp);(go_simp);exact absurd d (by omega))) ⟨rfl,ah.of_below ad,m.out.alloc _⟩
  ·obtain⟨rfl,rfl,rfl,rfl,rfl,rfl,rfl⟩:=no (.inr (by simp[HalfD.ends,G]));have W:(A==2)=false:=by simp[G]
   clear f no;go_enter func316,ntmps316;go_wp2_with (first|go_in)
   exact nn 4 #[.int .i64 0,.int .i64 0,.int .i64 0,.int .i64 0] (.int .i64 0) (.bool false) rfl rfl rfl rfl rfl underlying385 rfl (by kernel_rfl) (ek 3 _ rfl (by intro i d;rcases i with _|_|_|_|i;(go_simp);(go_simp);(go_simp);(go_simp);exact absurd d (by omega))) ⟨rfl,ah.of_below ad,m.out.alloc _⟩
 ·obtain⟨rfl,rfl,rfl,rfl,rfl,rfl,rfl⟩:=no (.inl M);have X:(j != b)=true:=by simp[M]
  clear f no;go_enter func316,ntmps316;go_wp2_with fail;exact nn 4 #[.int .i64 0,.int .i64 0,.int .i64 0,.int .i64 0] (.int .i64 0) (.bool false) rfl rfl rfl rfl rfl underlying385 rfl (by kernel_rfl) (ek 3 _ rfl (by intro i d;rcases i with _|_|_|_|i;(go_simp);(go_simp);(go_simp);(go_simp);exact absurd d (by omega))) ⟨rfl,ah.of_below ad,m.out.alloc _⟩
end
end Go.Proofs.YtechbdnhalmobaaGreatDoor
