/- Walks. -/
import Derived.Test.YtechbdnhalmobaaGreatDoorCB
import Derived.ScopeJumps
namespace Go.Proofs.YtechbdnhalmobaaGreatDoor
set_option maxRecDepth 100000
set_option maxHeartbeats 16000000
set_option linter.unusedSimpArgs false
set_option linter.unusedVariables false
open Go.Proofs.Tryz
open Go.RowKit Go.Maps
section
variable {S:Nat->Prop} {w:World} {g:Nat} {L:Ah} {t:cB} (H:dR S w g L t) (OK:dA t)
include H OK
theorem Lu(n:Int)(C : -9223372036854775808<=n/\n<=9223372036854775807):Calls prog 260 #[.pointer (some ⟨g,0,none⟩),n] w fun e M=>(∃v,e=.returned v)/\aa S [] true w M/\dR S M g L (t.leave n).1:=by
 have m:=Lh H;have r:=Lh C;have Q:=Lh OK.len;obtain⟨q,o,s,-⟩:=cz H.blk;cases hl:lk t.lives n with
 | none=>
  have E:Hid ((t.leave n).1=t):=by show _=_;unfold cB.leave;rw[hl]
  have F:Hid (lk (t.lives.map fun p=>(p.1,tt (L.wb p.1) p.2)) n=none):=by show _=_;rw[A4,hl];rfl
  clear H OK hl C;go_enter func260,ntmps260;go_wp2_with (at_lookup;refine cX rfl _ _ 126 344 rfl underlying126 _ zc L.ml _ rfl (m.out.ml.below ad) n rfl r.out _ F.out ?_)
  go_ret;rw[E.out];exact⟨⟨_,rfl⟩,aa.of_below ad,m.out.below ad⟩
 | some l=>
  have I:=Lh (H.win _ (pb hl));have E:Hid ((t.leave n).1={t with lives:=ins t.lives n {l with left:=true},ents:=del t.ents n}):=by show _=_;unfold cB.leave;rw[hl]
  have F:Hid (lk (t.lives.map fun p=>(p.1,tt (L.wb p.1) p.2)) n=some (tt (L.wb n) l)):=by show _=_;rw[A4,hl];rfl
  have N:Hid (∀p∈t.lives,p.1≠n->L.wb p.1≠L.wb n):=fun p T A e=>A (H.inj p T _ (pb hl) e);obtain⟨z,X,lw⟩:=l;clear H OK hl C;go_enter func260,ntmps260;go_wp2_with (at_lookup;refine cX rfl _ _ 126 344 rfl underlying126 _ zc L.ml _ rfl (m.out.ml.below ad) n rfl r.out _ F.out ?_)
  refine eN ?_;intro u D;have y:Hid (zB w u):=by rw[D];exact(show Below _ _ _ from ad)
  have G:Hid (Blk u w.heap.size #[z,true,.pointer (some ⟨L.wb n,0,none⟩)] 344):=by rw[D];exact Blk.new _ _ _
  have c:=Lh (m.out.below y.out);have B:Hid (Blk u (L.wb n) (Hd lw) 375):=I.out.1.keep y.out;clear D q o s;obtain⟨K,d,i,a⟩:=c.out.ml.Hi 126 344 underlying126 (by have:=Q.out.2;simp[maxLen];omega) n r.out (tt (L.wb n) ⟨z,true,lw⟩);have J:Blk K (L.wb n) (Hd lw) 375:=a.blk B.out (Ne.symm (c.out.ml.ne B.out))
  have eL:({L with wb:=fun k=>if k=n then L.wb n else L.wb k} : Ah)=L:=by
   have:(fun k=>if k=n then L.wb n else L.wb k)=L.wb:=by funext k;split;(rename_i h;rw[h]);rfl
   rw[this]
  have b:=c.out.Ks n N.out I.out.2 B.out a ⟨z,true,lw⟩ i ah.refl J;rw[eL] at b;have b:=Lh b;have R:Hid (aa S [] true w K):=(aa.of_below (S:=S) (ty:=[]) (mp:=true) y.out).trans (bg.cU a (.inl ⟨c.out.sl,OfT.map c.out.ml⟩)) (fun _ _ h=>h);obtain⟨q,o,s,-⟩:=cz c.out.blk;obtain⟨U,P,V,-⟩:=cz G.out;have O:=G.out.row?_all 3 rfl;clear i a J eL;go_region
  clear q o s U P V O d;obtain⟨q,o,s,-⟩:=cz b.out.blk;obtain⟨W,x,j,f⟩:=dl.K8 b.out.me 125 99 underlying125 n r.out 0;go_wp2_with fail;go_ret;rw[E.out];rw[I1] at j;exact⟨⟨_,rfl⟩,R.out.trans (bg.cU f (.inl ⟨b.out.sm,OfT.map b.out.me⟩)) (fun _ _ h=>h),b.out.EG f j⟩
end
section
variable {S:Nat->Prop} {w:World} {g:Nat} {L:NLay} {n:NodeD} (H:NodeAt S w g L n)
include H
theorem RF(x y a b d:Int):Calls prog 311 #[ptr L.f,elC x y a b d] w fun e c=>(∃v,e=.returned v)/\aa S [119] false w c/\NodeAt S c g L (nf n (uv n.cap n.fv n.fe ⟨x,y,a,b,d⟩)):=by
 refine(T9 L.f n.cap n.fv n.fe.x n.fe.y n.fe.a n.fe.b n.fe.d x y a b d w H.f).mono ?_;rintro e c ⟨l,j,k,m,rfl,i,hb⟩;have h:uv n.cap n.fv n.fe ⟨x,y,a,b,d⟩=((l,j),k):=m;rw[h];exact⟨⟨_,rfl⟩,aa.cU i H.f (by simp) H.sf,H.OP i hb⟩
theorem Pd(x y a b d c h:Int):Calls prog 338 #[ptr L.f,elC x y a b d,c,h] w fun e i=>(∃v,e=.returned v)/\aa S [119] false w i/\NodeAt S i g L (nf n (nh n.cap n.fv n.fe ⟨x,y,a,b,d⟩ c h)):=by
 refine(Rq L.f n.cap n.fv n.fe.x n.fe.y n.fe.a n.fe.b n.fe.d x y a b d c h w H.f).mono ?_;rintro e i ⟨p,l,m,q,rfl,k,o⟩;have j:nh n.cap n.fv n.fe ⟨x,y,a,b,d⟩ c h=((p,l),m):=q;rw[j];exact⟨⟨_,rfl⟩,aa.cU k H.f (by simp) H.sf,H.OP k o⟩
end
abbrev tyF:List TypeId:=[119]
section
variable {S:Nat->Prop} {w w1 w2:World} {g:Nat} {L:NLay} {n n2:NodeD}
structure FQ (S:Nat->Prop) (g:Nat) (L:NLay) (w w':World) (n:NodeD):Prop where
 t:aa S tyF true w w'
 n:NodeAt S w' g L n
theorem FQ.refl(h:NodeAt S w g L n):FQ S g L w w n:=⟨aa.refl,h⟩
theorem FQ.below(h:FQ S g L w w1 n)(hb:zB w1 w2):FQ S g L w w2 n:=⟨h.t.trans (aa.of_below (S:=S) hb) (fun _ _ h=>h),h.n.below hb⟩
theorem FQ.map(h:FQ S g L w w1 n)(b:aa S [] true w1 w2)(a:NodeAt S w2 g L n2):FQ S g L w w2 n2:=⟨h.t.trans (b.mono (fun _ _ h=>h) (by simp) (fun h=>h)) (fun _ _ h=>h),a⟩
theorem FQ.filt(h:FQ S g L w w1 n)(b:aa S [119] false w1 w2)(a:NodeAt S w2 g L n2):FQ S g L w w2 n2:=⟨h.t.trans (b.mono (fun _ _ h=>h) (fun _ h=>h) (fun h=>(by cases h))) (fun _ _ h=>h),a⟩
end
section
variable {S:Nat->Prop} {w:World} {g:Nat} {L:NLay} {n:NodeD} (H:NodeAt S w g L n) (OK:bL n)
include H OK
theorem LG(f:FrD)(a1 a a2:Int)(hw:cA a=true)(Y : -9223372036854775808<=f.who/\f.who<=9223372036854775807){s:Nat}{vs:Value}(B:Blk w s #[ptr g,a,a2,vs] 203):Calls prog 258 #[ptr g,IQ f a1 s] w fun e l=>e=.returned (.tuple #[])/\FQ S g L w l (n.tracked f a):=by
 obtain⟨Q,V,W,O,y,P,u,q,fw,c,p,o,m,i,d⟩:=f;simp only at Y;have HH:=Lh H;have HS:=Lh B;have HO:=Lh OK;have HW:=Lh hw;have HK:=Lh Y;have a5:=B.lt;by_cases c1:fw=n.id
 ·subst c1;obtain⟨⟨R,X,N,U,T⟩,kk,I⟩:∃e k,n.at ⟨p,o,m,i,d⟩ c a=(e,k):=⟨_,_,rfl⟩
  have z:Hid (n.tracked ⟨Q,V,W,O,y,P,u,q,n.id,c,p,o,m,i,d⟩ a=if kk=0 then nf n (uv n.cap n.fv n.fe ⟨R,X,N,U,T⟩) else n):=by
   show _=_;unfold NodeD.tracked;rw[if_pos rfl];show(if (n.at ⟨p,o,m,i,d⟩ c a).2=0 then nf n (uv n.cap n.fv n.fe (n.at ⟨p,o,m,i,d⟩ c a).1) else n)=_;rw[I]
  have HA:zX w 94 #[ptr g,elC p o m i d,c,a] (.tuple #[elC R X N U T,kk]):=fun w1 hb=>Pm (H.below hb) _ _ _ _ _ _ _ _ _ _ _ _ _ I
  have HM:Hid (∀w1,zB w w1->Calls prog 311 #[ptr L.f,elC R X N U T] w1 fun e l=>(∃v,e=.returned v)/\FQ S g L w l (nf n (uv n.cap n.fv n.fe ⟨R,X,N,U,T⟩))):=fun w1 hb=>
   (RF (H.below hb) _ _ _ _ _).mono (by
    rintro e l ⟨he,h1,h2⟩;exact⟨he,((FQ.refl H).below hb).filt h1 h2⟩)
  obtain⟨-,-,-,-,-,-,G,-,a0,-,-,-,-,-,-,-,fz,yg⟩:=ca H.blk;obtain⟨ys,cs,C,-⟩:=cz B;clear H B OK hw Y I;have c2:(n.id==n.id)=true:=by simp
  go_enter func258,ntmps258;go_wp2_with fail;go_region
  go_wp2_with fail;go_cut [4,5] from 8 (fun s4 s5 wc=>∃h,s4=.pointer (some ⟨h,0,none⟩)/\s5=.int .i64 kk/\Hid (Blk wc h #[R,X,N,U,T] 35)/\Hid (zB w wc))
  case first=>
   go_region_held3 (fun l => l.cell? ⟨w.heap.size, 10, none⟩ = some (.int .i64 p)/\l.cell? ⟨w.heap.size, 11, none⟩ = some (.int .i64 o)/\l.cell? ⟨w.heap.size, 12, none⟩ = some (.int .i64 m)/\l.cell? ⟨w.heap.size, 13, none⟩ = some (.int .i64 i)/\l.cell? ⟨w.heap.size, 14, none⟩ = some (.int .i64 d)/\
       l.cell? ⟨w.heap.size,9,none⟩=some (.int .i64 c)/\l.cell? ⟨w.heap.size,16,none⟩=some (ptr s)/\l.cell? ⟨s,1,none⟩=some (.int .i64 a)) (go_simp)
    (first
    | (go_at_call 94;refine(HA.out _ ad).mono ?_;rintro e w1 ⟨rfl,j⟩;have A:=j.size;(try simp at A);have K:=bq j (w.heap.size);have E:=bq j (g);have D:=bq j (s);(try (refine aI (bk j (w.heap.size+1)) ?_ ?_;(focus (first|omega|(simp;done)|(simp;omega)));rintro⟨y_w1_q3,c_w1_q3,f_w1_q3,r_w1_q3,t_w1_q3,p_w1_q3⟩))))
   all_goals go_wp2_with fail
   all_goals go_meet
   all_goals refine⟨_,rfl,rfl,?_,?_⟩
   all_goals first
    | (show Below _ _ _;exact ad)
    | (show Blk _ _ _ _;apply Blk.of_eq;(focus (repeat (first|with_reducible exact Blk.new _ _ _|with_reducible exact Blk.new1 _ _ _ _|with_reducible apply Blk.drew|with_reducible apply Blk.ab|with_reducible apply Blk.keep (hb:=j)|with_reducible apply Blk.alloc)));rfl)
  case rest=>
   obtain⟨h,rfl,rfl,BH,Z⟩:=hcut;have CN:=HH.out.below Z.out;clear G a0 fz yg ys cs C;obtain⟨-,-,-,-,-,-,-,-,a0,-,-,-,-,-,-,-,fz,yg⟩:=ca CN.blk;obtain⟨ys,cs,C,-⟩:=cz BH.out;by_cases k0:kk=0
   ·have a4:Hid (n.tracked ⟨Q,V,W,O,y,P,u,q,n.id,c,p,o,m,i,d⟩ a=nf n (uv n.cap n.fv n.fe ⟨R,X,N,U,T⟩)):=by show _=_;rw[z.out,if_pos k0]
    subst k0;go_wp2_with fail;refine dv 5 (by kernel_rfl) (by kernel_rfl) ?_;simp only[List.take_succ_cons,List.take_zero,List.drop_succ_cons,List.drop_zero];(repeat still_step);(try refine wpStill_nil ?_);go_wp2_with fail;refine(HM.out _ ad).mono ?_;rintro e w9 ⟨⟨v9,rfl⟩,hq⟩;go_wp2_with fail;refine bodyPost_ret (results_none rfl _ _ _) rfl ?_;rw[a4.out];exact⟨rfl,hq⟩
   ·have k1:(kk==0)=false:=by simpa using k0
    go_wp2_with fail;refine bodyPost_ret (results_none rfl _ _ _) rfl ?_;rw[z.out,if_neg k0];exact⟨rfl,(FQ.refl HH.out).below Z.out⟩
 · have z : Hid (n.tracked ⟨Q, V, W, O, y, P, u, q, fw, c, p, o, m, i, d⟩ a = if (lk n.t.ents fw).isSome then n.put fw ⟨p, o, m, i, d⟩ c a else n) := by
     show _=_;unfold NodeD.tracked;rw[if_neg c1];rfl
   obtain⟨r,hr⟩:∃r,lk n.t.ents fw=r:=⟨_,rfl⟩;obtain⟨⟨x0,x1,x2,x3,⟨e0,e1,e2,e3,e4⟩,x5⟩,hx⟩:∃x,r.getD .zero=x:=⟨_,rfl⟩;obtain⟨ok,F⟩:∃b,r.isSome=b:=⟨_,rfl⟩;rw[hr,F] at z;have J:Hid (ok=true->n.tracked ⟨Q,V,W,O,y,P,u,q,fw,c,p,o,m,i,d⟩ a=n.put fw ⟨p,o,m,i,d⟩ c a):=fun h=>by rw[z.out,if_pos h]
   have M:Hid (ok=false->n.tracked ⟨Q,V,W,O,y,P,u,q,fw,c,p,o,m,i,d⟩ a=n):=fun h=>by rw[z.out,if_neg (by rw[h];decide)]
   clear z
   have HG:zX w 93 #[ptr L.t,fw] (.tuple #[kx ⟨x0,x1,x2,x3,⟨e0,e1,e2,e3,e4⟩,x5⟩,ok]):=fun w1 hb=>by
    have:=Ch (H.t.below hb) fw Y r hr;rw[hx,F] at this;exact this
   have HP:Hid (∀w1,zB w w1->Calls prog 257 #[ptr g,fw,elC p o m i d,c,a] w1 fun e l=>e=.returned (.tuple #[])/\FQ S g L w l (n.put fw ⟨p,o,m,i,d⟩ c a)):=fun w1 hb=>
    (Pe (H.below hb) OK.t fw a Y _ _ _ _ _ c hw).mono (by
     rintro e l ⟨rfl,h1,h2⟩;exact⟨rfl,((FQ.refl H).below hb).map h1 h2⟩)
   obtain⟨-,-,-,-,-,-,G,-,-,a3,-,-,-,-,-,-,fz,yg⟩:=ca H.blk;obtain⟨ys,cs,C,-⟩:=cz B;clear H B OK hw Y hr hx F;have c2:(fw==n.id)=false:=by simp[c1]
   go_enter func258,ntmps258;go_wp2_with fail;go_region
   go_wp2_with fail;go_cut [6,7] from 8 (fun s6 s7 wc=>∃h,s6=.pointer (some ⟨h,0,none⟩)/\s7=.bool ok/\Hid (Blk wc w.heap.size #[Q,V,W,O,y,P,u,q,fw,c,p,o,m,i,d,a1,ptr s] 271)/\Hid (zB w wc))
   case first=>
    go_region_held3 (fun l=>l.cell? ⟨g,14,none⟩=some (ptr L.t)/\l.cell? ⟨w.heap.size,8,none⟩=some (.int .i64 fw)) (go_simp)
     (first
     | (go_at_call 93;refine(HG.out _ ad).mono ?_;rintro e w1 ⟨rfl,j⟩;have A:=j.size;(try simp at A);have K:=bq j (w.heap.size);have E:=bq j (g);have D:=bq j (s);(try (refine aI (bk j (w.heap.size+1)) ?_ ?_;(focus (first|omega|(simp;done)|(simp;omega)));rintro⟨y_w1_q3,c_w1_q3,f_w1_q3,r_w1_q3,t_w1_q3,p_w1_q3⟩))))
    all_goals go_wp2_with fail
    all_goals go_meet
    all_goals refine⟨_,rfl,rfl,?_,?_⟩
    all_goals first
     | (show Below _ _ _;exact ad)
     | (show Blk _ _ _ _;repeat (first|with_reducible exact Blk.new _ _ _|with_reducible apply Blk.drew|with_reducible apply Blk.keep (hb:=j)|with_reducible apply Blk.alloc|(with_reducible refine Blk.ac ?_ ?hB _;case hB=>(first|omega|(simp;done)|(simp;omega)))))
   case rest=>
    obtain⟨h,rfl,rfl,BH,Z⟩:=hcut;clear G a3 fz yg ys cs C;obtain⟨ys,cs,C,-⟩:=cz (HS.out.keep Z.out);obtain⟨yh,ch,fh,-⟩:=cz BH.out;cases ok with
    | false=>
     have z:=Lh (M.out rfl);clear J M;go_wp2_with fail;refine bodyPost_end (results_none rfl _ _ _) rfl ?_;rw[z.out];exact⟨rfl,(FQ.refl HH.out).below Z.out⟩
    | true=>
     have z:=Lh (J.out rfl);clear J M;go_wp2_with fail;refine dv 15 (by kernel_rfl) (by kernel_rfl) ?_;simp only[List.take_succ_cons,List.take_zero,List.drop_succ_cons,List.drop_zero];(repeat still_step);(try refine wpStill_nil ?_);go_wp2_with fail;refine(HP.out _ ad).mono ?_;rintro e w9 ⟨rfl,hq⟩;go_wp2_with fail;refine bodyPost_end (results_none rfl _ _ _) rfl ?_;rw[z.out];exact⟨rfl,hq⟩
end
section
variable {S:Nat->Prop} {w:World} {g:Nat} {L:NLay} {n:NodeD} (H:NodeAt S w g L n) (OK:bL n)
include H OK
theorem KB(k:Int)(hk : -9223372036854775808<=k/\k<=9223372036854775807)(p db t q a j:Int):Calls prog 317 #[ptr g,k,.agg #[p,db,t,q],a,j] w fun e Z=>e=.returned (.tuple #[])/\FQ S g L w Z (n.measured k ⟨p,db,t,q⟩ a j):=by
 obtain⟨⟨Q,P,O,T,V⟩,R,F⟩:∃e b,n.track k j=(e,b):=⟨_,_,rfl⟩;obtain⟨B,D⟩:∃z,ticksE a j n.c.skew=z:=⟨_,rfl⟩;have hc:=Af n.c OK.c;have E:=Jj a j n.c.skew;rw[D] at E
 have o:n.measured k ⟨p,db,t,q⟩ a j=if R=false∨4194304<2*n.c.speed*B then n else if (twrRange ⟨p,db,t,q⟩ n.c.drift (2*n.c.speed*B)).2=0 then nf n (nh n.cap n.fv n.fe ⟨Q,P,O,T,V⟩ (twrRange ⟨p,db,t,q⟩ n.c.drift (2*n.c.speed*B)).1.1 (twrRange ⟨p,db,t,q⟩ n.c.drift (2*n.c.speed*B)).1.2) else n:=by
  unfold NodeD.measured;rw[F,D]
 have J:=Lh (FQ.refl H);have Y:Hid (zR 46 #[ptr g,k,j] (w.alloc (Obj.cells #[p,db,t,q] 385)) (.tuple #[elC Q P O T V,R])):=Kz (H.below ((Below.refl _ _).alloc (Nat.le_refl _) _)) k j hk _ _ _ _ _ _ F;have a3:Hid (∀y,zR 41 #[a,j,.int .i64 n.c.skew] y (.int .i64 B)):=fun y=>Me _ _ _ _ D y
 have a8:0<=n.c.speed/\n.c.speed<=1000:=by
  have:=OK.c;simp only[Cfg.may,ks,Bool.and_eq_true,decide_eq_true_eq] at this;omega
 have a2:0<=n.c.drift/\n.c.drift<=1000:=by
  have:=OK.c;simp only[Cfg.may,ks,Bool.and_eq_true,decide_eq_true_eq] at this;omega
 have hm:0<=2*n.c.speed*B/\2*n.c.speed*B<=6000002000:=by
  refine⟨Int.mul_nonneg (by omega) E.1,?_⟩;exact Int.le_trans (Int.mul_le_mul (show 2*n.c.speed<=2000 by omega) E.2 E.1 (by decide)) (by decide)
 obtain⟨N,K⟩:∃z,2*n.c.speed*B=z:=⟨_,rfl⟩;rw[K] at o hm
 have a7:Hid (wrap64 (wrap64 (2*n.c.speed)*B)=N):=by
  show _=_;have e1:wrap64 (2*n.c.speed)=2*n.c.speed:=by unfold wrap64;omega
  rw[e1,K];unfold wrap64;omega
 have HM:=Lh hm;have HC:=Lh hc;have HD:=Lh a2;clear H OK hk F D hc E a8 a2 K;obtain⟨-,-,-,-,-,-,-,-,C,-,-,-,-,-,-,-,fz,yg⟩:=ca J.out.n.blk;go_enter func317,ntmps317;go_wp2_with (go_at_call 46;refine Y.out.mono ?_;rintro e y ⟨rfl,M⟩)
 refine eN ?_;intro u hu;have a0:zB w y:=Below.trans ((Below.refl _ _).alloc (Nat.le_refl _) _) (M.mono (by simp));have AL:zB w u:=by rw[hu];exact a0.alloc a0.size _
 have G:Hid (Blk u w.heap.size #[p,db,t,q] 385):=by rw[hu];exact((Blk.new w _ _).keep M).alloc _
 have U:Hid (Blk u y.heap.size #[Q,P,O,T,V] 35):=by rw[hu];exact Blk.new _ _ _
 have x:=Lh (J.out.below AL);obtain⟨eb,a1⟩:∃z,y.heap.size=z:=⟨_,rfl⟩;try simp only[a1] at U ⊢
 clear hu AL M J Y fz yg C a1;obtain⟨q2,-,q4,-,-,-,-,-,-,-,-,-,-,-,-,-,fz,yg⟩:=ca x.out.n.blk;have W:=fun d s=>cell_regrown q2 d s;have c4:=fun d s=>cell_regrown q4 d s;refine wp_region_quiet_below (by kernel_rfl) (by kernel_rfl) ?_;repeat (go_big_quiet_step (first|(go_at_call 41;exact Calls.regrown_of (a3.out _))))
 refine wpQuiet_nil ?_;intro wq A;have m:=ay A;replace G:=Lh (G.out.keep m);replace U:=Lh (U.out.keep m);replace x:=Lh (x.out.below m);clear A m W c4 q2 q4 fz yg a3;rw[a7.out];obtain⟨a6,a9⟩:=HM.out;by_cases c1:R=true/\¬4194304<N
 ·obtain⟨rfl,W⟩:=c1;rw[if_neg (by rintro(h|h);cases h;exact W h)] at o;obtain⟨⟨⟨lo,hi⟩,z⟩,hq⟩:∃r,twrRange ⟨p,db,t,q⟩ n.c.drift N=r:=⟨_,rfl⟩;rw[hq] at o;have HR:Hid (∀y,zR 337 #[.agg #[p,db,t,q],.int .i64 n.c.drift,N] y (.tuple #[lo,hi,z])):=fun y=>Lq _ _ _ _ _ _ HD.out ⟨a6,by omega⟩ _ _ _ hq y;replace o:=Lh o;clear hq;obtain⟨-,-,-,q5,-,-,-,-,C,-,-,-,-,-,-,-,fz,yg⟩:=ca x.out.n.blk;have c5:=fun d s=>cell_regrown q5 d s;have t0:=fun d s=>cell_regrown (G.out.cell (i:=0) (v:=.int .i64 p) rfl) d s;have t1:=fun d s=>cell_regrown (G.out.cell (i:=1) (v:=.int .i64 db) rfl) d s;have t2:=fun d s=>cell_regrown (G.out.cell (i:=2) (v:=.int .i64 t) rfl) d s;have t3:=fun d s=>cell_regrown (G.out.cell (i:=3) (v:=.int .i64 q) rfl) d s;go_wp2_with fail;refine wp_region_quiet_below (by kernel_rfl) (by kernel_rfl) ?_;repeat (go_big_quiet_step (first|(go_at_call 337;exact Calls.regrown_of (HR.out _))))
  refine wpQuiet_nil ?_;intro a4 A;have m:=ay A;replace U:=Lh (U.out.keep m);replace x:=Lh (x.out.below m);clear A m c5 t0 t1 t2 t3 q5 C fz yg HR G;by_cases z0:z=0
  ·subst z0;have I:Hid (n.measured k ⟨p,db,t,q⟩ a j=nf n (nh n.cap n.fv n.fe ⟨Q,P,O,T,V⟩ lo hi)):=by show _=_;rw[o.out,if_pos rfl]
   have a5:Hid (∀Z,zB a4 Z->Calls prog 338 #[ptr L.f,elC Q P O T V,lo,hi] Z fun e X=>(∃v,e=.returned v)/\FQ S g L w X (nf n (nh n.cap n.fv n.fe ⟨Q,P,O,T,V⟩ lo hi))):=fun Z E=>
    (Pd (x.out.n.below E) _ _ _ _ _ _ _).mono (by
     rintro e X ⟨he,h1,h2⟩;exact⟨he,(x.out.below E).filt h1 h2⟩)
   clear o;obtain⟨-,-,-,-,-,-,-,-,C,-,-,-,-,-,-,-,fz,yg⟩:=ca x.out.n.blk;obtain⟨ye,ce,fe,-⟩:=cz U.out;go_wp2_with fail;refine dv 7 (by kernel_rfl) (by kernel_rfl) ?_;simp only[List.take_succ_cons,List.take_zero,List.drop_succ_cons,List.drop_zero];(repeat still_step);(try refine wpStill_nil ?_);go_wp2_with fail;refine(a5.out _ ad).mono ?_;rintro e w9 ⟨⟨v9,rfl⟩,hq⟩;go_wp2_with fail;refine bodyPost_end (results_none rfl _ _ _) rfl ?_;rw[I.out];exact⟨rfl,hq⟩
  ·have z1:(z==0)=false:=by simpa using z0
   have I:Hid (n.measured k ⟨p,db,t,q⟩ a j=n):=by show _=_;rw[o.out,if_neg z0]
   clear o;go_wp2_with fail;refine bodyPost_end (results_none rfl _ _ _) rfl ?_;rw[I.out];exact⟨rfl,x.out⟩
 · have W : R = false ∨ 4194304 < N := by
     cases R
     ·exact .inl rfl
     ·exact .inr (by by_cases h:4194304<N;exact h;exact absurd ⟨rfl,h⟩ c1)
   rw[if_pos W] at o;replace o:=Lh o;cases R with
   | false=>
    go_wp2_with fail;refine bodyPost_ret (results_none rfl _ _ _) rfl ?_;rw[o.out];exact⟨rfl,x.out⟩
   | true=>
    have c3:4194304<N:=by rcases W with h|h;cases h;exact h
    go_wp2_with fail;refine bodyPost_ret (results_none rfl _ _ _) rfl ?_;rw[o.out];exact⟨rfl,x.out⟩
end
section
variable {S:Nat->Prop} {w w' w1:World} {g s:Nat} {L:NLay} {n n2:NodeD} {now fine:Int} {l l2:List ky}
theorem HQ.ses(h:HQ S g s L now fine w w1 n l)(i:Nat)(a:i<64)(b:ah (L.s i) w1 w'){c:cZ}(d:Blk w' (L.s i) (xX c) 245):HQ S g s L now fine w w' (n.upd i c) l:=by
 have T:aa S [245] false w1 w':=aa.cU b (h.n.s i a).1 (by simp) (h.n.s i a).2;exact⟨h.t.trans (T.mono (fun _ _ h=>h) (by simp) (fun h=>(by cases h))) (fun _ _ h=>h),h.n.S9 i a b d,h.s.nr T (by decide) (by decide)⟩
theorem HQ.nq(h:HQ S g s L now fine w w1 n l)(a:NQ S g s L now fine w1 w' n2 l2):HQ S g s L now fine w w' n2 l2:=h.trans a.hq
theorem HQ.fq(h:HQ S g s L now fine w w1 n l)(a:FQ S g L w1 w' n2):HQ S g s L now fine w w' n2 l:=by
 refine⟨h.t.trans (a.t.mono (fun _ _ h=>h) (by simp) (fun h=>h)) (fun _ _ h=>h),a.n,?_⟩;obtain⟨⟨v,B,e,d,c,f⟩,b⟩:=h.s;exact⟨⟨v,B,a.t.blk e (by decide),fW d a.t (by decide),Nat.le_trans c a.t.size,f⟩,b⟩
theorem HQ.blk(h:HQ S g s L now fine w w1 n l){b:Nat}{c:Array Value}{t:TypeId}(hb:Blk w b c t)(a:t∉tyH):Blk w1 b c t:=h.t.blk hb a
theorem NQ.blk(h:NQ S g s L now fine w w1 n l){b:Nat}{c:Array Value}{t:TypeId}(hb:Blk w b c t)(a:t∉tyS):Blk w1 b c t:=h.t.blk hb a
end
theorem TF(n:NodeD)(k:Nat)(s:cZ):(n.upd k s).s k=s:=if_pos rfl
section
variable {S:Nat->Prop} {w:World} {g s:Nat} {L:NLay} {n:NodeD} {now fine:Int} {l:List ky} (H:NodeAt S w g L n) (OK:bL n) (so:n.so) (HS:uA S w s g now fine l) (hl:l.length<=1000)
include H OK so HS hl
theorem LK(fk:Int)(hk:fk=2∨fk=3∨fk=4)(κ:Nat)(a2 : κ<64)(p k f D a c fw d G F E j i:Int)(J:0<=p/\p<=65535)(R:0<=k/\k<=65535)(hw:cA now=true)(b:Int):Calls prog 259 #[ptr g,IQ ⟨fk,κ,p,k,f,D,a,c,fw,d,G,F,E,j,i⟩ b s] w fun e w'=>e=.returned (.tuple #[])/\
   HQ S g s L now fine w w' (n.ranging ⟨fk,κ,p,k,f,D,a,c,fw,d,G,F,E,j,i⟩ b now fine).1 (l++(n.ranging ⟨fk,κ,p,k,f,D,a,c,fw,d,G,F,E,j,i⟩ b now fine).2):=by
 have b5:=Lh OK;have b9:=Lh so;have c3:=Lh hk;have HW:=Lh hw;have H0:=Lh (HQ.refl H HS);have HB:=Lh J;have c2:=Lh R;have HL:=Lh hl;obtain⟨-,-,-,-,-,-,-,-,-,-,-,-,-,-,-,-,fz,yg⟩:=ca H.blk;have a9:=Iz H.blk κ a2;have c8:(κ:Int)<64:=by omega
 have c9:(0:Int) <= κ:=by omega
 have a7:((κ:Int)).toNat=κ:=by omega
 clear H OK so HS hl J R hk hw;go_enter func259,ntmps259;go_wp2_with fail;refine eN ?_;intro u hu;have AL:zB w u:=by rw[hu];exact(Below.refl _ _).alloc (Nat.le_refl _) _
 have UH:Hid (Blk u w.heap.size #[fk,κ,p,k,f,D,a,c,fw,d,G,F,E,j,i,b,ptr s] 271):=by rw[hu];exact Blk.new _ _ _
 have U0:=Lh (H0.out.below AL);clear hu AL fz yg a9 H0;obtain⟨-,-,-,-,-,-,-,-,-,-,-,-,-,-,-,-,fz,yg⟩:=ca U0.out.n.blk;have a9:=Iz U0.out.n.blk κ a2;obtain⟨y1,c1,f1,-⟩:=cz UH.out;have r1:=UH.out.row? 0 15 (by simp);go_region
 refine Ht ?_;intro x hx;have AX:zB u x:=by rw[hx];exact((Below.refl _ _).alloc (Nat.le_refl _) _).drew
 have W:Hid (Blk x u.heap.size #[fk,κ,p,k,f,D,a,c,fw,d,G,F,E,j,i] 193):=by rw[hx];exact(Blk.new _ _ _).drew
 have V:=Lh (UH.out.keep AX);have X0:=Lh (U0.out.below AX);clear hx AX fz yg a9 y1 c1 f1 r1 UH U0;obtain⟨xf,b6⟩:∃z,u.heap.size=z:=⟨_,rfl⟩;obtain⟨xh,b3⟩:∃z,w.heap.size=z:=⟨_,rfl⟩;simp only[b6] at W;simp only[b3] at V;have T:=Lh (X0.out.n.s κ a2).1;have b4:=c3.out;clear c3;try simp only[b6,b3]
 clear b6 b3;by_cases k2:fk=2
 ·subst k2;obtain⟨B,t⟩:∃z,(n.s κ).gotPoll b f=z:=⟨_,rfl⟩;obtain⟨⟨n2,⟨m,U⟩,o⟩,Q⟩:∃r,(n.upd κ B).send now fine ⟨3,0,0,0,0,κ,p*65536+k,0,0,0,0,0,0,0,0⟩=r:=⟨_,rfl⟩
  have q:n.ranging ⟨2,κ,p,k,f,D,a,c,fw,d,G,F,E,j,i⟩ b now fine=if U then (n2.upd κ ((n2.s κ).resp fine m).1,o) else (n2,o):=by
   unfold NodeD.ranging tf fr0;simp only[if_true,a7,t,Q]
  have v:Hid (U=true->n.ranging ⟨2,κ,p,k,f,D,a,c,fw,d,G,F,E,j,i⟩ b now fine=(n2.upd κ ((n2.s κ).resp fine m).1,o)):=fun h=>by rw[q,if_pos h]
  have y:Hid (U=false->n.ranging ⟨2,κ,p,k,f,D,a,c,fw,d,G,F,E,j,i⟩ b now fine=(n2,o)):=fun h=>by rw[q,if_neg (by rw[h];decide)]
  have O:=Lh t;have a8:=Lh Q;clear q t Q b4;obtain⟨yh,ch,fh,-⟩:=cz V.out;obtain⟨yf,cf,Z,-⟩:=cz W.out;go_wp2_with (go_at_call 312;refine(JO (L.s κ) _ (n.s κ) T.out b f).mono ?_;rintro e w2 ⟨rfl,C,K⟩)
  rw[O.out] at K;have M:=Lh (X0.out.ses κ a2 C K);have X:=Lh (C.blk V.out (Blk.ne V.out T.out (by decide)));have P:=Lh (C.blk W.out (Blk.ne W.out T.out (by decide)))
  have a5:Hid (∀w',zB w2 w'->Calls prog 138 #[ptr s,frV ⟨3,0,0,0,0,κ,p*65536+k,0,0,0,0,0,0,0,0⟩] w' fun e I=>e=.returned (.tuple #[m,U])/\Hid (HQ S g s L now fine w I n2 (l++o))/\Hid (Blk I xh #[.int .i64 2,κ,p,k,f,D,a,c,fw,d,G,F,E,j,i,b,ptr s] 271)/\Hid (Blk I xf #[.int .i64 2,κ,p,k,f,D,a,c,fw,d,G,F,E,j,i] 193)):=fun w' J=>
   (Hm (M.out.n.below J) (b5.out.upd κ B) (M.out.below J).s _ HL.out _ a8.out).mono (by
    rintro e I ⟨rfl,R⟩;exact⟨rfl,(M.out.below J).nq R,R.blk (X.out.keep J) (by decide),R.blk (P.out.keep J) (by decide)⟩)
  clear C K T W V X0 yh ch fh yf cf Z;obtain⟨yh,ch,fh,-⟩:=cz X.out;obtain⟨yf,cf,Z,-⟩:=cz P.out;have rf:=P.out.row?_all 15 rfl;go_wp2_with fail
  go_region_held3 (fun w'=>w'.cell? ⟨xh,16,none⟩=some (ptr s)/\w'.cell? ⟨xf,1,none⟩=some (.int .i64 κ)/\w'.row? xf 0 15=some #[.int .i64 2,.int .i64 κ,.int .i64 p,.int .i64 k,.int .i64 f,.int .i64 D,.int .i64 a,.int .i64 c,.int .i64 fw,.int .i64 d,.int .i64 G,.int .i64 F,.int .i64 E,.int .i64 j,.int .i64 i]) (go_simp)
   (first
   | (go_at_call 186;refine(LP _ _ _ _ _ _ _ _ _ _ _ _ _ _ _ HB.out c2.out _).mono ?_;rintro e w5 ⟨rfl,N⟩;have Y:=N.size;(try simp at Y);have a1:=bq N (xh);have a0:=bq N (xf))
   | (go_at_call 138;refine(a5.out _ ad).mono ?_;rintro e w6 ⟨rfl,Z6,H6,F6⟩;obtain⟨y6,c6,f6,-⟩:=cz H6.out;obtain⟨y7,c7,f7,-⟩:=cz F6.out;have r7:=F6.out.row?_all 15 rfl))
  clear r7 f7 c7 y7 F6 a5 X P M rf yf cf Z;cases U with
  | false=>
   have q:=Lh (y.out rfl);clear v y;go_wp2_with fail;refine bodyPost_end (results_none rfl _ _ _) rfl ?_;rw[q.out];exact⟨rfl,Z6.out⟩
  | true=>
   have q:=Lh (v.out rfl);clear v y;have T:=(Z6.out.n.s κ a2).1;obtain⟨-,-,b0,ys⟩:=NQ.snd Z6.out.s;have b7:=(Z6.out.s.ex.choose_spec.choose_spec.1).frozen;go_wp2_with (go_at_call 313;refine(MW (L.s κ) _ (n2.s κ) T fine m).mono ?_;rintro e w7 ⟨rfl,C,K⟩)
   have Z7:=Lh (Z6.out.ses κ a2 C K);go_wp2_with fail;refine bodyPost_end (results_none rfl _ _ _) rfl ?_;rw[q.out];exact⟨rfl,Z7.out⟩
 by_cases k3:fk=3
 ·subst k3;obtain⟨⟨B,b1⟩,t⟩:∃z,(n.s κ).gotResp b a=z:=⟨_,rfl⟩;obtain⟨⟨s2,q1,q2,b2⟩,a6⟩:∃z,B.final fine=z:=⟨_,rfl⟩;obtain⟨⟨n2,⟨m,U⟩,o⟩,Q⟩:∃r,((n.upd κ B).upd κ s2).send now fine ⟨4,0,0,0,0,κ,q1,q2,0,p*65536+k,0,0,0,0,0⟩=r:=⟨_,rfl⟩
  have q:n.ranging ⟨3,κ,p,k,f,D,a,c,fw,d,G,F,E,j,i⟩ b now fine=if b1=false then (n.upd κ B,[]) else if b2 then (n2,o) else ((n.upd κ B).upd κ s2,[]):=by
   unfold NodeD.ranging tf fr0;simp only[a7,t,TF,a6,Q];rfl
  have v:Hid (b1=false->n.ranging ⟨3,κ,p,k,f,D,a,c,fw,d,G,F,E,j,i⟩ b now fine=(n.upd κ B,[])):=fun h=>by rw[q,if_pos h]
  have y:Hid (b1=true->b2=false->n.ranging ⟨3,κ,p,k,f,D,a,c,fw,d,G,F,E,j,i⟩ b now fine=((n.upd κ B).upd κ s2,[])):=fun h h2=>by rw[q,if_neg (by rw[h];decide),if_neg (by rw[h2];decide)]
  have a4:Hid (b1=true->b2=true->n.ranging ⟨3,κ,p,k,f,D,a,c,fw,d,G,F,E,j,i⟩ b now fine=(n2,o)):=fun h h2=>by rw[q,if_neg (by rw[h];decide),if_pos h2]
  have O:Hid (Calls prog 314 #[ptr (L.s κ),b,a] x fun e w'=>e=.returned (.bool b1)/\ah (L.s κ) x w'/\Blk w' (L.s κ) (xX B) 245):=by
   have:=JN (L.s κ) x (n.s κ) T.out b a;rw[t] at this;exact this
  have A:B.ok:=by have:=(b9.out κ).gotResp b a;rw[t] at this;exact this
  have c4:Hid (∀w1,Blk w1 (L.s κ) (xX B) 245->Calls prog 315 #[ptr (L.s κ),fine] w1 fun e w'=>e=.returned (.tuple #[q1,q2,b2])/\ah (L.s κ) w1 w'/\Blk w' (L.s κ) (xX s2) 245):=fun w1 K=>by
   have:=Lw (L.s κ) w1 B K fine ⟨A.1.1.1,A.1.1.2,A.1.2.1,A.1.2.2⟩;rw[a6] at this;exact this
  have a8:=Lh Q;clear q t a6 Q A b4;obtain⟨yh,ch,fh,-⟩:=cz V.out;obtain⟨yf,cf,Z,-⟩:=cz W.out;go_wp2_with fail;refine O.out.mono ?_;rintro e w2 ⟨rfl,C,K⟩;have M:=Lh (X0.out.ses κ a2 C K);have a3:=Lh K;have X:=Lh (C.blk V.out (Blk.ne V.out T.out (by decide)));have P:=Lh (C.blk W.out (Blk.ne W.out T.out (by decide)));clear C K T W V X0 yh ch fh yf cf Z O;cases b1 with
  | false=>
   have q:=Lh (v.out rfl);clear v y a4;go_wp2_with fail;refine bodyPost_ret (results_none rfl _ _ _) rfl ?_;rw[q.out,List.append_nil];exact⟨rfl,M.out⟩
  | true=>
   obtain⟨yh,ch,fh,-⟩:=cz X.out;obtain⟨yf,cf,Z,-⟩:=cz P.out;obtain⟨-,-,b0,ys⟩:=NQ.snd M.out.s;have b7:=(M.out.s.ex.choose_spec.choose_spec.1).frozen;go_wp2_with fail;refine(c4.out _ a3.out).mono ?_;rintro e w3 ⟨rfl,C,K⟩;have X2:=Lh (M.out.ses κ a2 C K);have c0:=C.blk X.out (Blk.ne X.out a3.out (by decide));have b8:=C.blk P.out (Blk.ne P.out a3.out (by decide));clear C K a3 M X P yh ch fh yf cf Z c4 b0 ys b7;have X:=Lh c0;have P:=Lh b8;clear c0 b8;cases b2 with
   | false=>
    have q:=Lh (y.out (by first|rfl|trivial) rfl);clear v y a4;go_wp2_with fail;refine bodyPost_end (results_none rfl _ _ _) rfl ?_;rw[q.out,List.append_nil];exact⟨rfl,X2.out⟩
   | true=>
    have q:=Lh (a4.out (by first|rfl|trivial) rfl);clear v y a4
    have a5:Hid (∀w',zB w3 w'->Calls prog 138 #[ptr s,frV ⟨4,0,0,0,0,κ,q1,q2,0,p*65536+k,0,0,0,0,0⟩] w' fun e I=>e=.returned (.tuple #[m,U])/\Hid (HQ S g s L now fine w I n2 (l++o))/\Hid (Blk I xh #[.int .i64 3,κ,p,k,f,D,a,c,fw,d,G,F,E,j,i,b,ptr s] 271)/\Hid (Blk I xf #[.int .i64 3,κ,p,k,f,D,a,c,fw,d,G,F,E,j,i] 193)):=fun w' J=>
     (Hm (X2.out.n.below J) ((b5.out.upd κ B).upd κ s2) (X2.out.below J).s _ HL.out _ a8.out).mono (by
      rintro e I ⟨rfl,R⟩;exact⟨rfl,(X2.out.below J).nq R,R.blk (X.out.keep J) (by decide),R.blk (P.out.keep J) (by decide)⟩)
    obtain⟨yh,ch,fh,-⟩:=cz X.out;obtain⟨yf,cf,Z,-⟩:=cz P.out;have rf:=P.out.row?_all 15 rfl;go_wp2_with fail
    go_region_held3 (fun w'=>w'.cell? ⟨xh,16,none⟩=some (ptr s)/\w'.cell? ⟨xf,1,none⟩=some (.int .i64 κ)/\w'.row? xf 0 15=some #[.int .i64 3,.int .i64 κ,.int .i64 p,.int .i64 k,.int .i64 f,.int .i64 D,.int .i64 a,.int .i64 c,.int .i64 fw,.int .i64 d,.int .i64 G,.int .i64 F,.int .i64 E,.int .i64 j,.int .i64 i]) (go_simp)
     (first
     | (go_at_call 186;refine(LP _ _ _ _ _ _ _ _ _ _ _ _ _ _ _ HB.out c2.out _).mono ?_;rintro e w5 ⟨rfl,N⟩;have Y:=N.size;(try simp at Y);have a1:=bq N (xh);have a0:=bq N (xf))
     | (go_at_call 138;refine(a5.out _ ad).mono ?_;rintro e w6 ⟨rfl,Z6,H6,F6⟩;obtain⟨y6,c6,f6,-⟩:=cz H6.out;obtain⟨y7,c7,f7,-⟩:=cz F6.out;have r7:=F6.out.row?_all 15 rfl))
    go_wp2_with fail;refine bodyPost_end (results_none rfl _ _ _) rfl ?_;rw[q.out];exact⟨rfl,Z6.out⟩
 obtain rfl:fk=4:=by omega
 obtain⟨⟨B,⟨r1,r2,r3,r4⟩,sp,U⟩,t⟩:∃z,(n.s κ).gotFinal b a c d=z:=⟨_,rfl⟩
 have q:n.ranging ⟨4,κ,p,k,f,D,a,c,fw,d,G,F,E,j,i⟩ b now fine=if U then ((n.upd κ B).measured κ ⟨r1,r2,r3,r4⟩ sp now,[]) else (n.upd κ B,[]):=by
  unfold NodeD.ranging;simp only[a7,t];rfl
 have v:Hid (U=true->n.ranging ⟨4,κ,p,k,f,D,a,c,fw,d,G,F,E,j,i⟩ b now fine=((n.upd κ B).measured κ ⟨r1,r2,r3,r4⟩ sp now,[])):=fun h=>by rw[q,if_pos h]
 have y:Hid (U=false->n.ranging ⟨4,κ,p,k,f,D,a,c,fw,d,G,F,E,j,i⟩ b now fine=(n.upd κ B,[])):=fun h=>by rw[q,if_neg (by rw[h];decide)]
 have A:=(b9.out κ).2
 have O:Hid (Calls prog 316 #[ptr (L.s κ),b,a,c,d] x fun e w'=>e=.returned (.tuple #[.agg #[r1,r2,r3,r4],sp,U])/\ah (L.s κ) x w'/\Blk w' (L.s κ) (xX B) 245):=
  Jd (L.s κ) x (n.s κ) T.out b a c d ⟨A.1.1,A.1.2,A.2.1,A.2.2⟩ B r1 r2 r3 r4 sp U t
 clear q t A b4 k2 k3;obtain⟨yh,ch,fh,-⟩:=cz V.out;obtain⟨yf,cf,Z,-⟩:=cz W.out;go_wp2_with fail;refine O.out.mono ?_;rintro e w2 ⟨rfl,C,K⟩;have M:=Lh (X0.out.ses κ a2 C K);have X:=Lh (C.blk V.out (Blk.ne V.out T.out (by decide)));have P:=Lh (C.blk W.out (Blk.ne W.out T.out (by decide)));clear C K T W V X0 yh ch fh yf cf Z O;cases U with
 | false=>
  have q:=Lh (y.out rfl);clear v y;go_wp2_with fail;refine bodyPost_end (results_none rfl _ _ _) rfl ?_;rw[q.out,List.append_nil];exact⟨rfl,M.out.below ((Below.refl _ _).alloc (Nat.le_refl _) _)⟩
 | true=>
  have q:=Lh (v.out rfl);clear v y
  have c5:Hid (∀w1,zB w2 w1->Calls prog 317 #[ptr g,κ,.agg #[r1,r2,r3,r4],sp,now] w1 fun e w'=>e=.returned (.tuple #[])/\HQ S g s L now fine w w' ((n.upd κ B).measured κ ⟨r1,r2,r3,r4⟩ sp now) l):=fun w1 J=>
   (KB (M.out.n.below J) (b5.out.upd κ B) κ (by omega) r1 r2 r3 r4 sp now).mono (by
    rintro e w' ⟨rfl,R⟩;exact⟨rfl,(M.out.below J).fq R⟩)
  obtain⟨yh,ch,fh,-⟩:=cz X.out;obtain⟨yf,cf,Z,-⟩:=cz P.out;obtain⟨-,d0,b0,ys⟩:=NQ.snd M.out.s;have b7:=(M.out.s.ex.choose_spec.choose_spec.1).frozen;go_wp2_with fail;refine dv 10 (by kernel_rfl) (by kernel_rfl) ?_;simp only[List.take_succ_cons,List.take_zero,List.drop_succ_cons,List.drop_zero];(repeat still_step);(try refine wpStill_nil ?_);go_wp2_with fail;refine(c5.out _ ad).mono ?_;rintro e w3 ⟨rfl,R⟩;go_wp2_with fail;refine bodyPost_end (results_none rfl _ _ _) rfl ?_;rw[q.out,List.append_nil];exact⟨rfl,R⟩
end
@[go_sem ↓] theorem Vt(P : Program)(w : World)(b o : Nat):(loadCellsFrom ⟨b, o, none⟩ 0 17 #[]).run P w=gT (w.row? b o 17) w (lcf P b o 17 w):=lcf_row? w b o 17
theorem JX{f:FrD}(h:pl f=true):(0<=f.src/\f.src<64)/\(0<=f.boot/\f.boot<=65535)/\(0<=f.seq/\f.seq<=65535)/\(0<=f.stamp/\f.stamp<=1000000)/\(0<=f.who/\f.who<64)/\(f.kind=1∨f.kind=2∨f.kind=3∨f.kind=4∨f.kind=5∨f.kind=6∨f.kind=7):=by
 obtain⟨k,s,bo,c,p,o,e,i,m,j,x,y,a,b,d⟩:=f;unfold pl restF at h;simp only at h;simp only
 repeat' split at h
 all_goals simp only[Bool.and_eq_true,decide_eq_true_eq,pg,Aa,Bool.false_and,Bool.false_eq_true] at h
 all_goals omega
theorem Sx{l:List Nat}{f:FrD}(h:decE l=(f,0)):pl f=true:=by
 unfold decE at h
 repeat' split at h
 all_goals first
  | (injection h with h1 h2;cases h2;done)
  | (rename_i a;injection h with h1 _;rw[<-h1];exact a)
section
variable {S:Nat->Prop} {w:World} {g s:Nat} {L:NLay} {n:NodeD} {now fine:Int} {l:List ky} (H:NodeAt S w g L n) (OK:bL n) (so:n.so) (HS:uA S w s g now fine l) (hl:l.length<=1000) (hw:cA now=true)
include H OK so HS hl hw
theorem RD(f:FrD)(K:pl f=true)(d:Int):Calls prog 196 #[ptr g,IQ f d s] w fun e E=>e=.returned (.tuple #[])/\HQ S g s L now fine w E (n.take f d now fine).1 (l++(n.take f d now fine).2):=by
 obtain⟨⟨b1,b2⟩,W,V,-,⟨b5,b6⟩,T⟩:=JX K;obtain⟨o,q,A,B,a,p,k,i,fw,j,x,r,u,c,b⟩:=f;simp only at b1 b2 W V b5 b6 T;obtain⟨v0,B0,m,-⟩:=HS.ex;have P:=Lh m;have F:=Lh (HQ.refl H HS);have Y:=m.lt;have AL:∀{v:Value},zB w (w.alloc (Obj.cells #[v] 271)):=(Below.refl _ _).alloc (Nat.le_refl _) _;have I:o=1∨o=2∨o=3∨o=4∨o=5∨o=6∨o=7:=T;clear T;by_cases M:o=5
 ·subst M
  have J:Hid (∀z,zB w z->Calls prog 257 #[ptr g,q,elC x r u c b,a,now] z fun e E=>e=.returned (.tuple #[])/\HQ S g s L now fine w E (n.put q ⟨x,r,u,c,b⟩ a now) l):=fun z D=>
   (Pe (H.below D) OK.t q now (by omega) _ _ _ _ _ a hw).mono (by
    rintro e E ⟨rfl,h1,X⟩;exact⟨rfl,(F.out.below D).map h1 X⟩)
  have y:Hid (n.take ⟨5,q,A,B,a,p,k,i,fw,j,x,r,u,c,b⟩ d now fine=(n.put q ⟨x,r,u,c,b⟩ a now,[])):=by show _=_;unfold NodeD.take;rw[if_pos rfl];rfl
  obtain⟨ys,cs,Z,-⟩:=cz m;clear H HS OK so hw m F hl I K;go_enter func196,ntmps196;go_wp2_with fail;refine dv 15 (by kernel_rfl) (by kernel_rfl) ?_;simp only[List.take_succ_cons,List.take_zero,List.drop_succ_cons,List.drop_zero];(repeat still_step);(try refine wpStill_nil ?_);go_wp2_with fail;refine(J.out _ ad).mono ?_;rintro e R ⟨rfl,G⟩;go_wp2_with fail;refine bodyPost_end (results_none rfl _ _ _) rfl ?_;rw[y.out,List.append_nil];exact⟨rfl,G⟩
 by_cases N:o=6
 ·subst N
  have J:Hid (∀z,zB w z->Calls prog 258 #[ptr g,IQ ⟨6,q,A,B,a,p,k,i,fw,j,x,r,u,c,b⟩ d s] z fun e E=>e=.returned (.tuple #[])/\HQ S g s L now fine w E (n.tracked ⟨6,q,A,B,a,p,k,i,fw,j,x,r,u,c,b⟩ now) l):=fun z D=>
   (LG (H.below D) OK ⟨6,q,A,B,a,p,k,i,fw,j,x,r,u,c,b⟩ d now fine hw (by show _<=fw/\fw<=_;omega) (m.keep D)).mono (by
    rintro e E ⟨rfl,I⟩;exact⟨rfl,(F.out.below D).fq I⟩)
  have y:Hid (n.take ⟨6,q,A,B,a,p,k,i,fw,j,x,r,u,c,b⟩ d now fine=(n.tracked ⟨6,q,A,B,a,p,k,i,fw,j,x,r,u,c,b⟩ now,[])):=by show _=_;unfold NodeD.take;rw[if_neg (by simp only;decide),if_pos rfl]
  clear H HS OK so hw m F hl I K P M;go_enter func196,ntmps196;go_wp2_with fail;refine(J.out _ ad).mono ?_;rintro e R ⟨rfl,G⟩;go_wp2_with fail;refine bodyPost_end (results_none rfl _ _ _) rfl ?_;rw[y.out,List.append_nil];exact⟨rfl,G⟩
 by_cases Q:o=7
 ·subst Q
  have J:Hid (∀z,zB w z->Calls prog 260 #[ptr L.t,q] z fun e E=>(∃v,e=.returned v)/\HQ S g s L now fine w E {n with t:=(n.t.leave q).1} l):=fun z D=>
   (Lu (H.t.below D) OK.t q (by omega)).mono (by
    rintro e E ⟨he,G,hN⟩;exact⟨he,(F.out.below D).map G ((H.below D).Kr (G.mono (fun _ _ h=>h) (by simp) (fun h=>h)) hN)⟩)
  have y:Hid (n.take ⟨7,q,A,B,a,p,k,i,fw,j,x,r,u,c,b⟩ d now fine=({n with t:=(n.t.leave q).1},[])):=by show _=_;unfold NodeD.take;rw[if_neg (by simp only;decide),if_neg (by simp only;decide),if_neg (by simp only;decide),if_pos rfl]
  obtain⟨-,-,-,-,-,-,-,-,-,a0,-,-,-,-,-,-,fz,yg⟩:=ca H.blk;clear H HS OK so hw m F hl I K P M N;go_enter func196,ntmps196;go_wp2_with fail;refine dv 7 (by kernel_rfl) (by kernel_rfl) ?_;simp only[List.take_succ_cons,List.take_zero,List.drop_succ_cons,List.drop_zero];(repeat still_step);(try refine wpStill_nil ?_);go_wp2_with fail;refine(J.out _ ad).mono ?_;rintro e R ⟨⟨v3,rfl⟩,G⟩;go_wp2_with fail;refine bodyPost_end (results_none rfl _ _ _) rfl ?_;rw[y.out,List.append_nil];exact⟨rfl,G⟩
 by_cases U:o=1
 ·subst U;have y:Hid (n.take ⟨1,q,A,B,a,p,k,i,fw,j,x,r,u,c,b⟩ d now fine=(n,[])):=by show _=_;unfold NodeD.take;rw[if_neg (by simp only;decide),if_neg (by simp only;decide),if_neg (by simp only;decide),if_neg (by simp only;decide)]
  clear H HS OK so hw m hl I K P M N Q;go_enter func196,ntmps196;go_wp2_with fail;refine bodyPost_end (results_none rfl _ _ _) rfl ?_;rw[y.out,List.append_nil];exact⟨rfl,F.out.below ad⟩
 have C:o=2∨o=3∨o=4:=by omega
 obtain⟨κ,rfl⟩:∃κ:Nat,q=κ:=⟨q.toNat,by omega⟩;have y:n.take ⟨o,κ,A,B,a,p,k,i,fw,j,x,r,u,c,b⟩ d now fine=if p=n.id then n.ranging ⟨o,κ,A,B,a,p,k,i,fw,j,x,r,u,c,b⟩ d now fine else (n,[]):=by unfold NodeD.take;rw[if_neg M,if_neg N,if_pos C]
 obtain⟨-,-,-,-,-,-,a1,-,-,-,-,-,-,-,-,-,fz,yg⟩:=ca H.blk;by_cases O:p=n.id
 ·rw[if_pos O] at y;replace y:=Lh y
  have J:Hid (∀z,zB w z->Calls prog 259 #[ptr g,IQ ⟨o,κ,A,B,a,p,k,i,fw,j,x,r,u,c,b⟩ d s] z fun e E=>e=.returned (.tuple #[])/\HQ S g s L now fine w E (n.ranging ⟨o,κ,A,B,a,p,k,i,fw,j,x,r,u,c,b⟩ d now fine).1 (l++(n.ranging ⟨o,κ,A,B,a,p,k,i,fw,j,x,r,u,c,b⟩ d now fine).2)):=fun z D=>
   (LK (H.below D) OK so (F.out.below D).s hl o C κ (by omega) A B a p k i fw j x r u c b W V hw d).mono (by
    rintro e E ⟨rfl,I⟩;exact⟨rfl,(F.out.below D).trans I⟩)
  have c2:(p==n.id)=true:=by simp[O]
  clear H HS OK so hw m F hl I K P M N Q U O;rcases C with rfl|rfl|rfl
  all_goals go_enter func196,ntmps196
  all_goals go_wp2_with fail
  all_goals go_region
  all_goals go_wp2_with fail
  all_goals (refine(J.out _ ad).mono ?_;rintro e R ⟨rfl,G⟩)
  all_goals go_wp2_with fail
  all_goals refine bodyPost_end (results_none rfl _ _ _) rfl ?_
  all_goals rw[y.out]
  all_goals exact⟨rfl,G⟩
 ·rw[if_neg O] at y;replace y:=Lh y;have c2:(p==n.id)=false:=by simp[O]
  clear H HS OK so hw m hl I K P M N Q U;rcases C with rfl|rfl|rfl
  all_goals go_enter func196,ntmps196
  all_goals go_wp2_with fail
  all_goals go_region
  all_goals go_wp2_with fail
  all_goals refine bodyPost_end (results_none rfl _ _ _) rfl ?_
  all_goals rw[y.out,List.append_nil]
  all_goals exact⟨rfl,F.out.below ad⟩
end
theorem JD{P:Program}{a:Act}{w:World}{Q:Exit->Act->World->Prop}{c b:Code}(l:Nat)(d:findLabel c l=some b)(first:c.wp P (Exit.jump l (fun a w=>b.wp P (Exit.noGoto Q) a w) Q) a w):(Code.scope c).wp P Q a w:=
 wp_scope_jumps l _ (fun _ _=>0) d first (fun _ _ h=>Code.wp_mono (fun e a w q=>by cases e<;>first|exact q|exact q.elim) h)
@[go_sem] theorem PE{l : Nat}{J : Act->World->Prop}{Q : Exit->Act->World->Prop}{a : Act}{w : World}:Exit.jump l J Q .ret a w=Q .ret a w:=rfl
theorem Sa(n:NodeD)(l:List Nat)(d a b:Int)(j:cA a=true)(f:FrD)(h i g:Int)(e:cB)(m:decE l=(f,h))(o:freshF f.stamp a n.c.stale n.c.skew=i)(k:n.t.hear f.src f.boot f.seq a=(e,g)):n.hear l d a b=if h≠0 then ({n with bad:=min (n.bad+1) 1000000},[],h) else if f.src=n.id then (n,[],9) else if i≠0 then (n,[],i) else if g≠0 then ({n with t:=e},[],g) else ((NodeD.take {n with t:=e} f d a b).1,(NodeD.take {n with t:=e} f d a b).2,0):=by
 unfold NodeD.hear;rw[if_neg (by rw[j];decide),m];simp only;rw[o,k]
def Jb(S:Nat->Prop)(g:Nat)(w:World)(n2:NodeD)(o:List ky)(e:Ending)(w':World):Prop:=
 ∃vo k,e=.returned (.tuple #[vo,k])/\bg S w w'/\(∃L2,NodeAt S w' g L2 n2)/\w'.ownsRow 0 195 16 vo o.length (o.flatMap Cj)/\∀b,vo.ownBlock=some b->S b
theorem Jb.none{S:Nat->Prop}{g:Nat}{w w':World}{a:NodeD}{k:Int}{d:NLay}(h:bg S w w')(c:NodeAt S w' g d a):Jb S g w a [] (.returned (.tuple #[.slice none 0 0,k])) w':=
 ⟨_,_,rfl,h,⟨_,c⟩,⟨rfl,.inl ⟨rfl,rfl⟩⟩,fun b hb=>by cases hb⟩
theorem Sb(n:NodeD)(OK:bL n)(so:n.so)(l:List Nat)(i a d:Int)(hw:cA a=true):MB n (n.hear l i a d).1 l i a d (n.hear l i a d).2.1:=by
 intro S w g L v H hS hr;have hc:=Af n.c OK.c;obtain⟨⟨fk,x,O,M,p,fd,A,z,fw,C,fx,fy,fa,D,y⟩,Q,hd⟩:∃f k,decE l=(f,k):=⟨_,_,rfl⟩;obtain⟨kf,hf⟩:∃k,freshF p a n.c.stale n.c.skew=k:=⟨_,rfl⟩;obtain⟨⟨R,kq⟩,hq⟩:∃r,n.t.hear x O M a=r:=⟨_,rfl⟩;have F:=Lh (Sa n l i a d hw _ Q kf kq R hd hf hq);have m:Hid (Q=0->pl ⟨fk,x,O,M,p,fd,A,z,fw,C,fx,fy,fa,D,y⟩=true):=fun h=>by subst h;exact Sx hd
 have HD:zX w 193 #[v] (.tuple #[frC fk x O M p fd A z fw C fx fy fa D y,Q]):=fun j W=>Qc _ _ _ _ hd _ (hr.below W);have a3:Hid (∀j,Calls prog 134 #[a] j fun e U=>e=.returned (.bool true)/\U=j):=fun j=>JS _ hw _;have a0:0<=a/\a<=1000000:=by simpa [cA] using hw
 have X:Hid (Q=0->∀j,Calls prog 194 #[p,a,.int .i64 n.c.stale,.int .i64 n.c.skew] j fun e U=>e=.returned (.int .i64 kf)/\U=j):=fun h j=>Si _ _ _ _ _ hf (JX (m.out h)).2.2.2.1 a0 (by omega) (by omega) _
 have o:Hid (Q=0->∀j,zB w j->Calls prog 195 #[ptr L.t,x,O,M,a] j fun e U=>e=.returned (.int .i64 kq)/\aa S [375] true j U/\∃L',NodeAt S U g L' {n with t:=R}):=fun h j W=>by
  obtain⟨b1,b2,b3,-⟩:=JX (m.out h);refine(MS (H.t.below W) OK.t (fun k hk=>hS k (Nat.le_trans W.size hk)) x O M a ((pg _).2 b1) ((Bf _).2 b2) ((Bf _).2 b3) hw R kq hq).mono ?_;rintro e U ⟨rfl,G,T',Y⟩;exact⟨rfl,G,_,(H.below W).Kr G Y⟩
 have a7:Hid (bL {n with t:=R}):=by show bL _;have:=OK.tab (OK.t.hear x O M a);rw[hq] at this;exact this
 have a6:Hid (NodeD.so {n with t:=R}):=so;have a9:=Lh OK.bad;have HS:=Lh hS;have HW:=Lh hw;have HH:=Lh H;obtain⟨-,-,q4,-,q6,-,K,-,-,J,-,-,-,-,-,-,fz,yg⟩:=ca H.blk;show Calls _ _ _ _ (Jb S g w (n.hear l i a d).1 (n.hear l i a d).2.1);clear H OK so hd hr hw hc a0 hf hq hS;go_enter func146,ntmps146;go_wp2_with fail;refine JD 0 (by rfl) ?_;go_wp2_with (go_at_call 134;refine(a3.out _).mono ?_;rintro e j ⟨rfl,h⟩;have V:=h.symm;subst V)
 refine(HD.out _ ad).mono ?_;rintro e j ⟨rfl,q⟩;have XX:Blk j w.heap.size #[.int .i64 0,.int .i64 0,.int .i64 0,.int .i64 0,.int .i64 0,.int .i64 0,.int .i64 0,.int .i64 0,.int .i64 0,.int .i64 0,.int .i64 0,.int .i64 0,.int .i64 0,.int .i64 0,.int .i64 0] 193:=Blk.keep cC q;have XS:Blk j (w.heap.size+1) #[ptr g,a,d,.slice none 0 0] 203:=Blk.keep (Blk.new1 _ _ _ _) q;have B1:zB w j:=ad;have T:=q.size;(try simp at T);have I:=bq2 q (w.heap.size);have P:=bq q (g);go_upto_region 7 with fail
 refine eN ?_;intro u hu
 have HX:Hid (Blk u w.heap.size #[fk,x,O,M,p,fd,A,z,fw,C,fx,fy,fa,D,y] 193):=by
  rw[hu];exact N9 XX
 have b4:Hid (Blk u (w.heap.size+1) #[ptr g,a,d,.slice none 0 0] 203):=by
  rw[hu];show Blk _ _ _ _;exact cC
 have HB:Hid (zB w u):=by rw[hu];show Below _ _ _;exact ad
 have N1:=Lh (HH.out.below HB.out);clear T I P;clear hu XX XS q B1 q4 q6 K J fz yg HD a3;obtain⟨-,-,q4,-,q6,-,K,-,-,J,-,-,-,-,-,a4,fz,yg⟩:=ca N1.out.blk;obtain⟨y2,c2,f2,-⟩:=cz HX.out;by_cases Z:Q=0
 case neg=>
  have k1:(Q != 0)=true:=by simp[Z]
  obtain⟨b5,b6⟩:=a9.out;have e1:wrap64 (n.bad+1)=n.bad+1:=by unfold wrap64;omega
  have e2:IntKind.i64.wrap (n.bad+1)=n.bad+1:=IntWalk.i64_in _ (by omega);have B:n.hear l i a d=({n with bad:=min (n.bad+1) 1000000},[],Q):=by rw[F.out,if_pos Z]
  replace B:=Lh B;clear F X o m;go_wp2_with fail;go_step3
  refine⟨rfl,?_⟩;show Code.wp _ _ _ _ _;go_wp2_with fail;rw[Exit.noGoto_ret];go_ret2
  rw[B.out];exact Jb.none ((bg.of_below HB.out).setCell (.inl HH.out.sg) 84 _) (N1.out.Kt (ah.refl.setCell 84 _) ((N1.out.blk.ab 84 _).of_eq (Np _ _ _)) rfl rfl rfl rfl rfl rfl rfl)
 subst Z;have N:=Lh (m.out rfl);replace X:=Lh (X.out rfl);replace o:=Lh (o.out rfl);by_cases E:x=n.id
 ·have B:Hid (n.hear l i a d=(n,[],9)):=by show _=_;rw[F.out,if_neg (fun h=>h rfl),if_pos E]
  have c2:(x==n.id)=true:=by simp[E]
  clear F X o m N E;go_wp2_with fail;go_region
  go_wp2_with fail;go_step3
  refine⟨rfl,?_⟩;show Code.wp _ _ _ _ _;go_wp2_with fail;rw[Exit.noGoto_ret];go_ret2
  rw[B.out];exact Jb.none (bg.of_below ad) (HH.out.below ad)
 have c2:(x==n.id)=false:=by simp[E]
 by_cases f0:kf=0
 case neg=>
  have B:Hid (n.hear l i a d=(n,[],kf)):=by show _=_;rw[F.out,if_neg (fun h=>h rfl),if_neg E,if_pos f0]
  have b0:(kf != 0)=true:=by simp[f0]
  clear F o m N E;go_wp2_with fail;go_region
  go_wp2_with fail;refine dv 13 (by kernel_rfl) (by kernel_rfl) ?_;simp only[List.take_succ_cons,List.take_zero,List.drop_succ_cons,List.drop_zero];(repeat still_step);(try refine wpStill_nil ?_);go_wp2_with (go_at_call 194;refine(X.out _).mono ?_;rintro e w2 ⟨rfl,h⟩;have V:=h.symm;subst V)
  go_step3
  refine⟨rfl,?_⟩;show Code.wp _ _ _ _ _;go_wp2_with fail;rw[Exit.noGoto_ret];go_ret2
  rw[B.out];exact Jb.none (bg.of_below ad) (HH.out.below ad)
 subst f0;by_cases q0:kq=0
 case neg=>
  have B:Hid (n.hear l i a d=({n with t:=R},[],kq)):=by show _=_;rw[F.out,if_neg (fun h=>h rfl),if_neg E,if_neg (fun h=>h rfl),if_pos q0]
  have b0:(kq != 0)=true:=by simp[q0]
  clear F m N E;go_wp2_with fail;go_region
  go_wp2_with fail;refine dv 13 (by kernel_rfl) (by kernel_rfl) ?_;simp only[List.take_succ_cons,List.take_zero,List.drop_succ_cons,List.drop_zero];(repeat still_step);(try refine wpStill_nil ?_);go_wp2_with (go_at_call 194;refine(X.out _).mono ?_;rintro e w2 ⟨rfl,h⟩;have V:=h.symm;subst V)
  refine dv 11 (by kernel_rfl) (by kernel_rfl) ?_;simp only[List.take_succ_cons,List.take_zero,List.drop_succ_cons,List.drop_zero];(repeat still_step);(try refine wpStill_nil ?_);go_wp2_with fail;refine(o.out _ ad).mono ?_;rintro e w3 ⟨rfl,G,T',Y⟩;have N3:=Lh Y;have T3:Hid (bg S w w3):=(bg.of_below HB.out).drew.drew.drew.trans G.turns (fun _ _ h=>h);clear G Y q4 q6 K J a4 fz yg y2 c2 f2;go_wp2_with fail;go_step3
  refine⟨rfl,?_⟩;show Code.wp _ _ _ _ _;go_wp2_with fail;rw[Exit.noGoto_ret];go_ret2
  rw[B.out];exact Jb.none T3.out N3.out
 subst q0;have B:Hid (n.hear l i a d=((NodeD.take {n with t:=R} ⟨fk,x,O,M,p,fd,A,z,fw,C,fx,fy,fa,D,y⟩ i a d).1,(NodeD.take {n with t:=R} ⟨fk,x,O,M,p,fd,A,z,fw,C,fx,fy,fa,D,y⟩ i a d).2,0)):=by show _=_;rw[F.out,if_neg (fun h=>h rfl),if_neg E,if_neg (fun h=>h rfl),if_neg (fun h=>h rfl)]
 clear F m E;go_wp2_with fail;go_region
 go_wp2_with fail;refine dv 13 (by kernel_rfl) (by kernel_rfl) ?_;simp only[List.take_succ_cons,List.take_zero,List.drop_succ_cons,List.drop_zero];(repeat still_step);(try refine wpStill_nil ?_);go_wp2_with (go_at_call 194;refine(X.out _).mono ?_;rintro e w2 ⟨rfl,h⟩;have V:=h.symm;subst V)
 refine dv 11 (by kernel_rfl) (by kernel_rfl) ?_;simp only[List.take_succ_cons,List.take_zero,List.drop_succ_cons,List.drop_zero];(repeat still_step);(try refine wpStill_nil ?_);go_wp2_with fail;refine(o.out _ ad).mono ?_;rintro e w3 ⟨rfl,G,T',Y⟩;have N3:=Lh Y;have X3:=Lh (G.blk (HX.out.drew.drew.drew) (by decide));have S3:=Lh (G.blk (b4.out.drew.drew.drew) (by decide));have T3:Hid (bg S w w3):=(bg.of_below HB.out).drew.drew.drew.trans G.turns (fun _ _ h=>h);clear G Y q4 q6 K J a4 fz yg y2 c2 f2;have D3:Hid (uA S w3 (w.heap.size+1) g a d []):=⟨⟨.slice none 0 0,w.heap.size,S3.out,⟨rfl,.inl ⟨rfl,rfl⟩⟩,T3.out.size,HS.out⟩,HS.out _ (Nat.le_succ _)⟩;have HK:=Lh (RD N3.out a7.out a6.out D3.out (by simp) HW.out _ N.out i);obtain⟨y2,c2,f2,-⟩:=cz X3.out;have r2:=X3.out.row?_all 15 rfl;go_wp2_with fail;refine HK.out.mono ?_;rintro e w4 ⟨rfl,hQ⟩;rw[List.nil_append] at hQ;have Q4:=Lh hQ;have T4:Hid (bg S w w4):=T3.out.trans hQ.t.turns (fun _ _ h=>h);obtain⟨v9,B9,a2,a1,a8,a5⟩:=hQ.s.ex;have R9:=Lh a1;have P9:=Lh a5;clear y2 c2 f2 r2 hQ a1 a5 a8;obtain⟨y2,c2,f2,-⟩:=cz a2;clear a2;go_wp2_with fail;rw[PE];go_ret2
 rw[B.out];exact⟨_,_,rfl,T4.out,⟨_,Q4.out.n⟩,Ku R9.out,fun b W=>P9.out b (xA R9.out b W)⟩
theorem Pf(T:fU)(i:Nat):cA (T.now i)=true:=by
 unfold fU.now localF btw cA;simp only[Bool.and_eq_true,decide_eq_true_eq];split<;>omega
section
variable {ow:Nat->Nat} {w wr:World} {g tw ta:Nat} {gs:List Nat} {nv bv:Value} {F:FleetD}
theorem FlO.Se(h:FlO ow w g tw ta gs nv bv F wr)(i:Nat)(e:F.a.length<=i)(b:i<=1000000):zR 70 #[ptr ta,i] wr (.tuple #[.agg #[.int .i64 0,.slice none 0 0,.int .i64 0,.int .i64 0,false],false]):=by
 obtain⟨c,d,-⟩:=h;exact Oe d.a i e b
theorem NM(d:FlO ow w g tw ta gs nv bv F wr)(i:Nat)(h:F.a.length<=i)(b:i<=1000000):Calls prog 31 #[ptr g,i] wr fun e c=>e=.returned (.int .i64 7)/\FlO ow w g tw ta gs nv bv F c:=by
 have m:Hid (zR 70 #[ptr ta,i] wr (.tuple #[.agg #[.int .i64 0,.slice none 0 0,.int .i64 0,.int .i64 0,false],false])):=d.Se i h b;have k:Hid (∀c,zB wr c->FlO ow w g tw ta gs nv bv F c):=fun c n=>d.below n;obtain⟨t,p,l,j,o,u,s⟩:=d.cells;clear d h b;go_enter func31,ntmps31;go_wp2_with fail;refine m.out.mono ?_;rintro e r ⟨rfl,f⟩;have q:=f.size;go_wp2_with fail;go_ret;exact⟨rfl,k.out _ ad⟩
theorem LW(x:FlO ow w g tw ta gs nv bv F wr)(A:cV F)(i:Nat)(m:gE)(K:F.a[i]?=some m)(R:F.w.step.2<m.tru):Calls prog 31 #[ptr g,i] wr fun e p=>e=.returned (.int .i64 10)/\FlO ow w g tw ta gs nv bv {F with w:=F.w.step.1} p:=by
 have s:Hid (Calls prog 70 #[ptr ta,i] wr fun e p=>∃f c,e=.returned (.tuple #[AB m (.slice f m.data.length c),true])/\RdS (fun k=>wr.heap.size<=k) p (.slice f m.data.length c) m.data/\zB wr p):=x.Tk A i m K
 have L : Hid (∀ f c u d, zB wr d->zB d u->Blk u d.heap.size #[.int .i64 m.til, .slice f m.data.length c, .int .i64 m.at_, .int .i64 m.tru, .bool m.bent] 143->RdS (fun k => wr.heap.size <= k) d (.slice f m.data.length c) m.data->
     FlD ow w g tw ta gs nv bv F d.heap.size #[.int .i64 m.til,.slice f m.data.length c,.int .i64 m.at_,.int .i64 m.tru,.bool m.bent] (.slice f m.data.length c) m.data u):=fun f c u d D O P T=>x.toD D O P (Nat.le_refl _) T
 obtain⟨S,n⟩:∃z,F.w.step.1=z:=⟨_,rfl⟩;obtain⟨G,o⟩:∃z,F.w.step.2=z:=⟨_,rfl⟩;rw[o] at R;rw[n]
 have E:Hid (∀b H v d,FlD ow w g tw ta gs nv bv F b H v m.data d->Calls prog 65 #[ptr tw] d fun e p=>e=.returned (.int .i64 G)/\Hid (FlD ow w g tw ta gs nv bv {F with w:=S} b H v m.data p)):=fun b H v d D=>by
  have:=D.step_c A;rw[n,o] at this;exact this
 obtain⟨U,N,B,y,I,V,Q⟩:=x.cells;clear x A K n o;go_enter func31,ntmps31;go_wp2_with fail;refine s.out.mono ?_;rintro e d ⟨f,c,rfl,J,j⟩;have l:=j.size;(try simp at l);have h:=bq j (g);have M:=Lh J;clear J;go_wp2_with fail;refine jj ?_;intro u C
 have r:Hid (FlD ow w g tw ta gs nv bv F d.heap.size #[.int .i64 m.til,.slice f m.data.length c,.int .i64 m.at_,.int .i64 m.tru,.bool m.bent] (.slice f m.data.length c) m.data u):=
  L.out f c u d j (by rw[C];exact ad) (by rw[C];exact Blk.new _ _ _) M.out
 obtain⟨W,q⟩:∃z,d.heap.size=z:=⟨_,rfl⟩;try simp only[q] at r ⊢
 clear C M L s U N B y I V Q;clear l h;clear j q;refine(E.out _ _ _ _ r.out).mono ?_;rintro e Y ⟨rfl,t⟩;obtain⟨Z,X,f2,-⟩:=cz t.out.blk;go_wp2_with fail;go_ret;exact⟨rfl,t.out.fl⟩
theorem Ul(U:FlO ow w g tw ta gs nv bv F wr)(h:cV F)(i:Nat)(m:gE)(hm:F.a[i]?=some m)(ht:m.tru<=F.w.step.2)(n:NodeD)(hn:F.n[m.til]?=some n)(bo:Bool)(I:F.on[m.til]?=some bo)(HC:MB n (n.hear m.data m.at_ (F.w.step.1.now m.til) (F.w.step.1.fine m.til F.w.step.2)).1 m.data m.at_ (F.w.step.1.now m.til) (F.w.step.1.fine m.til F.w.step.2) (n.hear m.data m.at_ (F.w.step.1.now m.til) (F.w.step.1.fine m.til F.w.step.2)).2.1)(hl:(n.hear m.data m.at_ (F.w.step.1.now m.til) (F.w.step.1.fine m.til F.w.step.2)).2.1.length<=1000000):Calls prog 31 #[ptr g,i] wr fun e x=>e=.returned (.int .i64 0)/\FlO ow w g tw ta gs nv bv (F.deliver i).1 x:=by
 have a7:=(List.getElem?_eq_some_iff.1 hm).1
 have EV:Hid ((F.deliver i).1=if bo then ({F with w:=F.w.step.1,a:=F.a.eraseIdx i} : FleetD).hear m.til m.data m.at_ F.w.step.2 else {F with w:=F.w.step.1,a:=F.a.eraseIdx i}):=by
  show _=_;unfold FleetD.deliver;rw[if_neg (by omega),show((i:Int)).toNat=i by omega,hm];simp only;rw[if_neg (by omega),List.getD_eq_getElem?_getD,I];rfl
 have L:cV {F with w:=F.w.step.1}:=⟨vv h.t,h.p,h.a,h.d,h.lost,h.lo⟩;have M:cV {F with w:=F.w.step.1,a:=F.a.eraseIdx i}:=⟨vv h.t,h.p,Nat.le_trans (List.length_eraseIdx_le ..) h.a,fun p hp=>h.d p (List.mem_of_mem_eraseIdx hp),h.lost,h.lo⟩;have hG:=Io h.t;have a6:F.on.length=F.n.length:=h.lo;have a3:m.til<F.n.length:=(List.getElem?_eq_some_iff.1 hn).1;obtain⟨q0,Y,B,y,A,f1,Z⟩:=U.cells;have X:Hid (Calls prog 70 #[ptr ta,i] wr fun e x=>∃l c,e=.returned (.tuple #[AB m (.slice l m.data.length c),true])/\RdS (fun k=>wr.heap.size<=k) x (.slice l m.data.length c) m.data/\zB wr x):=U.Tk h i m hm;obtain⟨r,co,rfl,a5,a4⟩:∃b c,bv=.slice (some ⟨b,0,none⟩) F.on.length c/\b<wr.heap.size/\wr.cell? ⟨b,m.til,none⟩=some (.bool bo):=U.on I;have a9:(m.til:Int)<(F.on.length:Int):=by omega
 have b0:(0:Int)<=(m.til:Int):=by omega
 have HD : Hid (∀ l c u f, zB wr f->zB f u->Blk u f.heap.size #[.int .i64 m.til, .slice l m.data.length c, .int .i64 m.at_, .int .i64 m.tru, .bool m.bent] 143->RdS (fun k => wr.heap.size <= k) f (.slice l m.data.length c) m.data->
     FlD ow w g tw ta gs nv (.slice (some ⟨r,0,none⟩) F.on.length co) F f.heap.size #[.int .i64 m.til,.slice l m.data.length c,.int .i64 m.at_,.int .i64 m.tru,.bool m.bent] (.slice l m.data.length c) m.data u):=fun l c u f q h2 h3 h4=>U.toD q h2 h3 (Nat.le_refl _) h4
 obtain⟨Q,D⟩:∃z,F.w.step.1=z:=⟨_,rfl⟩;obtain⟨G,C⟩:∃z,F.w.step.2=z:=⟨_,rfl⟩;rw[D,C] at EV HC hl;rw[D] at L M;rw[C] at hG ht
 have a0:Hid (∀b o v f,FlD ow w g tw ta gs nv (.slice (some ⟨r,0,none⟩) F.on.length co) F b o v m.data f->Calls prog 65 #[ptr tw] f fun e x=>e=.returned (.int .i64 G)/\Hid (FlD ow w g tw ta gs nv (.slice (some ⟨r,0,none⟩) F.on.length co) {F with w:=Q} b o v m.data x)):=fun b o v f q=>by
  have:=q.step_c h;rw[D,C] at this;exact this
 have a1:Hid (∀b o v f,FlD ow w g tw ta gs nv (.slice (some ⟨r,0,none⟩) F.on.length co) {F with w:=Q} b o v m.data f->Calls prog 71 #[ptr ta,i] f fun e x=>(∃v',e=.returned v')/\Hid (FlD ow w g tw ta gs nv (.slice (some ⟨r,0,none⟩) F.on.length co) {F with w:=Q,a:=F.a.eraseIdx i} b o v m.data x)):=fun b o v f q=>q.take_c L i a7
 have W:Hid (bo=true->∀b o l c f,FlD ow w g tw ta gs nv (.slice (some ⟨r,0,none⟩) F.on.length co) {F with w:=Q,a:=F.a.eraseIdx i} b o (.slice l m.data.length c) m.data f->Calls prog 72 #[ptr g,.int .i64 m.til,.slice l m.data.length c,.int .i64 m.at_,G] f fun e x=>e=.returned (.tuple #[])/\Hid (FlO ow w g tw ta gs nv (.slice (some ⟨r,0,none⟩) F.on.length co) (F.deliver i).1 x)):=fun P b o l c f q=>by
  rw[EV.out,P,if_pos rfl];exact Sp q.fl M m.til n hn _ m.data q.rd m.at_ G hG HC hl
 have K:=I
 have R:Hid (bo=false->∀b o v f,FlD ow w g tw ta gs nv (.slice (some ⟨r,0,none⟩) F.on.length co) {F with w:=Q,a:=F.a.eraseIdx i} b o v m.data f->FlO ow w g tw ta gs nv (.slice (some ⟨r,0,none⟩) F.on.length co) (F.deliver i).1 f):=fun P b o v f q=>by
  rw[EV.out,P,if_neg (by decide)];exact q.fl
 have a2:Hid (∀b o v f,FlD ow w g tw ta gs nv (.slice (some ⟨r,0,none⟩) F.on.length co) {F with w:=Q,a:=F.a.eraseIdx i} b o v m.data f->f.cell? ⟨r,m.til,none⟩=some (.bool bo)):=fun b o v f q=>by
  obtain⟨b2,c2,O,-,hc⟩:=q.fl.on (j:=m.til) (k:=bo) K;injection O with O _ _
  injection O with O
  injection O with O
  subst O;exact hc
 have a8:¬(G<m.tru):=by omega
 obtain⟨FE,T⟩:∃z,(F.deliver i).1=z:=⟨_,rfl⟩;rw[T] at W R ⊢;clear U h hm hn I HC hl EV L M hG a6 a3 D C K T a5 a4 ht;go_enter func31,ntmps31;go_wp2_with fail;refine X.out.mono ?_;rintro e f ⟨l,c,rfl,hv,H⟩;have J:=H.size;(try simp at J);have E:=bq H (g);have HV:=Lh hv;clear hv;go_wp2_with fail;refine jj ?_;intro u hu
 have V:Hid (FlD ow w g tw ta gs nv (.slice (some ⟨r,0,none⟩) F.on.length co) F f.heap.size #[.int .i64 m.til,.slice l m.data.length c,.int .i64 m.at_,.int .i64 m.tru,.bool m.bent] (.slice l m.data.length c) m.data u):=
  HD.out l c u f H (by rw[hu];exact ad) (by rw[hu];exact Blk.new _ _ _) HV.out
 obtain⟨mb,S⟩:∃z,f.heap.size=z:=⟨_,rfl⟩;try simp only[S] at V ⊢
 clear hu HV HD X q0 Y B y A f1 Z;clear J E;clear H S;refine(a0.out _ _ _ _ V.out).mono ?_;rintro e w2 ⟨rfl,N⟩;obtain⟨q0,Y,B,y,A,f1,Z⟩:=N.out.fl.cells;obtain⟨y2,c2,f2,-⟩:=cz N.out.blk;go_wp2_with fail;refine(a1.out _ _ _ _ N.out).mono ?_;rintro e w3 ⟨⟨v3,rfl⟩,s⟩;clear q0 Y B y A f1 Z y2 c2 f2;obtain⟨q0,Y,B,y,A,f1,Z⟩:=s.out.fl.cells;obtain⟨y2,c2,f2,-⟩:=cz s.out.blk;have qo:=a2.out _ _ _ _ s.out;go_wp2_with fail;cases bo with
 | false=>
  go_region
  all_goals go_wp2_with fail
  all_goals go_ret
  all_goals exact⟨rfl,R.out (by first|rfl|trivial) _ _ _ _ (s.out.below (Below.refl _ _).drew)⟩
 | true=>
  go_region
  all_goals go_wp2_with fail
  all_goals refine(W.out (by first|rfl|trivial) _ _ _ _ _ (s.out.below (Below.refl _ _).drew)).mono ?_
  all_goals rintro e w4 ⟨rfl,HF⟩
  all_goals go_wp2_with fail
  all_goals go_ret
  all_goals exact⟨rfl,HF.out⟩
theorem IZ(d:FlO ow w g tw ta gs nv bv F wr)(K:cW F)(i:Nat)(o:i<=1000000):Calls prog 31 #[ptr g,i] wr fun e q=>e=.returned (.int .i64 (F.deliver i).2)/\FlO ow w g tw ta gs nv bv (F.deliver i).1 q:=by
 cases hm:F.a[i]? with
 | none=>
  have e:F.deliver i=(F,7):=by
   unfold FleetD.deliver;rw[if_neg (by omega),show((i:Int)).toNat=i by omega,hm]
  rw[e];refine NM d i ?_ o;rcases Nat.lt_or_ge i F.a.length with h|h
  ·rw[List.getElem?_eq_getElem h] at hm;cases hm
  ·exact h
 | some m=>
  by_cases c:F.w.step.2<m.tru
  · have e : F.deliver i = ({ F with w := F.w.step.1 }, 10) := by
      unfold FleetD.deliver;rw[if_neg (by omega),show((i:Int)).toNat=i by omega,hm];simp only;rw[if_pos c]
    rw[e];exact LW d K.ok i m hm c
  ·have r:=K.m m (List.mem_of_getElem? hm);have k:=K.ok.lo;obtain⟨n,j⟩:∃n,F.n[m.til]?=some n:=⟨_,List.getElem?_eq_getElem r⟩;obtain⟨bo,f⟩:∃b,F.on[m.til]?=some b:=⟨_,List.getElem?_eq_getElem (by omega)⟩
   have p:(F.deliver i).2=0:=by
    unfold FleetD.deliver;rw[if_neg (by omega),show((i:Int)).toNat=i by omega,hm];simp only;rw[if_neg c]
   have kn:=K.at j;have l:=PG n m.data m.at_ (F.w.step.1.now m.til) (F.w.step.1.fine m.til F.w.step.2);rw[p];exact Ul d K.ok i m hm (by omega) n j bo f (Sb n kn.1 kn.2 _ _ _ _ (Pf _ _)) (Nat.le_trans l (by decide))
end
end Go.Proofs.YtechbdnhalmobaaGreatDoor
