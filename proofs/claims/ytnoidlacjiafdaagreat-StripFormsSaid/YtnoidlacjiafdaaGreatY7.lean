/- Info.Ellipse of the document: its contract. -/
import Derived.Test.YtnoidlacjiafdaaGreatY6
namespace Go.Proofs.YtnoidlacjiafdaaGreat
set_option linter.unusedSimpArgs false
set_option linter.unusedVariables false
set_option maxRecDepth 100000
set_option maxHeartbeats 16000000
open Go.RowKit
theorem mM (q:Int):(dS q).2=0∨(dS q).2=2:=by unfold dS;split <;> simp
theorem nV (a b:Int):(cf a b).2=0∨(cf a b).2=2:=mM _
theorem oH (a b:Int):(cD a b).2=0∨(cD a b).2=2:=mM _
theorem tg (a b:Int):(db a b).2=0∨(db a b).2=2:=mM _
theorem BK {a b c d e:Int} (ha:a=0∨a=2) (hb:b=0∨b=2) (hc:c=0∨c=2) (hd:d=0∨d=2) (he:e=0∨e=2) (k:Nat) (h:¬ e5n a b c d e k=0):max (max (max (max (max 0 a) b) c) e) d≠0:=by
 unfold e5n at h;split at h <;> omega
theorem yM {a b c d e:Int} (h:∀ k,k<5→e5n a b c d e k=0):max (max (max (max (max 0 a) b) c) e) d=0:=by
 have h0:=h 0 (by decide);have h1:=h 1 (by decide);have h2:=h 2 (by decide);have h3:=h 3 (by decide);have h4:=h 4 (by decide);simp only[e5n] at h0 h1 h2 h3 h4;omega
theorem Ds (i:Iq) (h:i.Sml 205) (u:Value) (w:World) (hu:cS w u i) :
  Calls Tryz.prog 16 #[u] w fun e w'=>e = .returned (.tuple #[elV (ellI i).1,.int .i64 (ellI i).2])∧Below w.heap.size w w':=by
 have o:=Iq.out h;have lA:=h.A.lim (by decide);have lB:=h.B.lim (by decide);have lD:=h.D.lim (by decide);have lU:=h.U.lim (by decide);have lV:=h.V.lim (by decide);have lZ:=h.Z.lim (by decide);have lN:=h.N.lim (by decide);have ld:=o.d.lim (by decide);have lx:=o.x.lim (by decide);have ly:=o.y.lim (by decide);have ll:=o.lv.lim (by decide);have s2:Sm 205 2:=by unfold Sm;exact Nat.le_trans (by decide) (Nat.pow_le_pow_right (by decide) (show 1≤205 by decide))
 have HD:((WI.of i.A).mul (WI.of i.D)).sub ((WI.of i.B).mul (WI.of i.B))=WI.of i.d:=by
  rw[WI.au lA lD,WI.au lB lB,WI.ez ((h.A.mul h.D).lim (by decide)) ((h.B.mul h.B).lim (by decide))];rfl
 have HX:((WI.of i.D).mul (WI.of i.U)).sub ((WI.of i.B).mul (WI.of i.V))=WI.of i.x:=by
  rw[WI.au lD lU,WI.au lB lV,WI.ez ((h.D.mul h.U).lim (by decide)) ((h.B.mul h.V).lim (by decide))];rfl
 have HY:((WI.of i.A).mul (WI.of i.V)).sub ((WI.of i.B).mul (WI.of i.U))=WI.of i.y:=by
  rw[WI.au lA lV,WI.au lB lU,WI.ez ((h.A.mul h.V).lim (by decide)) ((h.B.mul h.U).lim (by decide))];rfl
 have HL:(((WI.of i.N).sub (WI.of i.Z)).mul (WI.of i.d)).add ((((WI.of i.D).mul ((WI.of i.U).mul (WI.of i.U))).add ((WI.of i.A).mul ((WI.of i.V).mul (WI.of i.V)))).add (((WI.of 2).mul ((WI.of i.B).mul ((WI.of i.U).mul (WI.of i.V)))).neg))=WI.of i.lv:=by
  have a1:=((h.N.sub h.Z).mul o.d);have a2:=((h.D.mul (h.U.mul h.U)).add (h.A.mul (h.V.mul h.V)));have a3:=s2.mul (h.B.mul (h.U.mul h.V))
  rw[WI.ez lN lZ,WI.au ((h.N.sub h.Z).lim (by decide)) ld,WI.au lU lU,WI.au lV lV,WI.au lD ((h.U.mul h.U).lim (by decide)),WI.au lA ((h.V.mul h.V).lim (by decide)),
   WI.ce ((h.D.mul (h.U.mul h.U)).lim (by decide)) ((h.A.mul (h.V.mul h.V)).lim (by decide)),WI.au lU lV,WI.au lB ((h.U.mul h.V).lim (by decide)),
   WI.au (s2.lim (by decide)) ((h.B.mul (h.U.mul h.V)).lim (by decide)),WI.of_neg (a3.lim (by decide)),WI.ce (a2.lim (by decide)) (a3.neg.lim (by decide)),
   WI.ce (a1.lim (by decide)) (((a2.mono (show 205+(205+205)+1≤900 by decide)).add (a3.neg.mono (show 205+(205+(205+205))≤900 by decide))).lim (by decide))]
  rfl
 have HS:(WI.of i.d).mul (WI.of i.d)=WI.of (i.d*i.d):=WI.au ld ld;have HP:(WI.of i.lv).mul (WI.of i.D)=WI.of (i.lv*i.D):=WI.au ll lD;have HQ:(WI.of i.lv).mul (WI.of i.A)=WI.of (i.lv*i.A):=WI.au ll lA;have HR:((WI.of i.lv).mul (WI.of i.B)).neg=WI.of (-(i.lv*i.B)):=by rw[WI.au ll lB,WI.of_neg ((o.lv.mul h.B).lim (by decide))]
 have sP:=(o.lv.mul h.D);have sQ:=(o.lv.mul h.A);have sR:=(o.lv.mul h.B).neg;have sS:=o.d.mul o.d
 have HV:ew [WI.of i.A,WI.of i.B,WI.of i.D,WI.of i.U,WI.of i.V,WI.of i.Z,WI.of i.N]=false:=by
  simp[ew,WI.cl lA,WI.cl lB,WI.cl lD,WI.cl lU,WI.cl lV,WI.cl lZ,WI.cl lN]
 have gA:(WI.of i.A).sign=i.A.sign:=WI.di lA;have gd:(WI.of i.d).sign=i.d.sign:=WI.di ld;have gl:(WI.of i.lv).sign=i.lv.sign:=WI.di ll;have N1:0<i.d→bR (WI.of i.x) (WI.of i.d)=cf i.x i.d:=fun hd=>i8 _ _ (o.x.mono (by decide)) (o.d.mono (by decide)) hd;have N2:0<i.d→bR (WI.of i.y) (WI.of i.d)=cf i.y i.d:=fun hd=>i8 _ _ (o.y.mono (by decide)) (o.d.mono (by decide)) hd;have p2:0<i.d→0<i.d*i.d:=fun hd=>Int.mul_pos hd hd;have N3:0<i.d→bP (WI.of (i.lv*i.D)) (WI.of (i.d*i.d))=cD (i.lv*i.D) (i.d*i.d):=fun hd=>jp _ _ (sP.mono (by decide)) (sS.mono (by decide)) (p2 hd);have N4:0<i.d→bP (WI.of (i.lv*i.A)) (WI.of (i.d*i.d))=cD (i.lv*i.A) (i.d*i.d):=fun hd=>jp _ _ (sQ.mono (by decide)) (sS.mono (by decide)) (p2 hd);have N5:0<i.d→floorV (WI.of (-(i.lv*i.B))) (WI.of (i.d*i.d))=db (-(i.lv*i.B)) (i.d*i.d):=fun hd=>jL _ _ (sR.mono (by decide)) (sS.mono (by decide)) (p2 hd)
 refine vt u (WI.of i.A) (WI.of i.B) (WI.of i.D) (WI.of i.U) (WI.of i.V) (WI.of i.Z) (WI.of i.N) _ _ (WI.of i.d) (WI.of (i.d*i.d)) _ _ _ _ _ _ _ _ _ _ (WI.of i.lv) (WI.of (i.lv*i.D)) (WI.of (i.lv*i.A)) _ (WI.of (-(i.lv*i.B))) _ _ (WI.of i.x) _ _ (WI.of i.y) w
  (Lh rfl) (Lh rfl) (Lh HD) (Lh HS) (Lh rfl) (Lh rfl) (Lh rfl) (Lh rfl) (Lh rfl) (Lh rfl) (Lh rfl) (Lh rfl) (Lh rfl) (Lh rfl) (Lh HL) (Lh HP) (Lh HQ) (Lh rfl) (Lh HR) (Lh rfl) (Lh rfl) (Lh HX) (Lh rfl) (Lh rfl) (Lh HY)
  (Lh HV) (Lh ⟨WI.cl ld,WI.cl (sS.lim (by decide)),WI.cl ll,WI.cl (sP.lim (by decide)),WI.cl (sQ.lim (by decide)),WI.cl (sR.lim (by decide)),WI.cl lx,WI.cl ly⟩) hu
  (ellI i) _ _ _ (bR (WI.of i.x) (WI.of i.d)).1 (bR (WI.of i.y) (WI.of i.d)).1 (bP (WI.of (i.lv*i.D)) (WI.of (i.d*i.d))).1 (floorV (WI.of (-(i.lv*i.B))) (WI.of (i.d*i.d))).1 (bP (WI.of (i.lv*i.A)) (WI.of (i.d*i.d))).1 (bR (WI.of i.x) (WI.of i.d)).2 (bR (WI.of i.y) (WI.of i.d)).2 (bP (WI.of (i.lv*i.D)) (WI.of (i.d*i.d))).2 (floorV (WI.of (-(i.lv*i.B))) (WI.of (i.d*i.d))).2 (bP (WI.of (i.lv*i.A)) (WI.of (i.d*i.d))).2 (Lh gA) (Lh gd) (Lh gl) (Lh rfl) (Lh rfl) (Lh rfl) (Lh rfl) (Lh rfl) (Lh ?_) (Lh ?_) (Lh ?_) (Lh ?_)
 ·intro hs;rw[bG,bG] at hs;unfold ellI;rw[if_pos hs]
 ·intro h1 h2 h3;have g1:=bG i.A;have g2:=bG i.d;have g3:=dQ i.lv;unfold ellI;rw[if_neg (by omega),if_pos (by omega)]
 ·intro h1 h2 h3 k hk hne;have g1:=bG i.A;have g2:=bG i.d;have g3:=dQ i.lv;have q2:0<i.d:=by omega
  rw[N1 q2,N2 q2,N3 q2,N4 q2,N5 q2] at hne;unfold ellI;rw[if_neg (by omega),if_neg (by omega)];unfold cm;rw[if_pos (.inl (BK (nV _ _) (nV _ _) (oH _ _) (tg _ _) (oH _ _) k hne))]
 ·intro h1 h2 h3 hz;have g1:=bG i.A;have g2:=bG i.d;have g3:=dQ i.lv;have q2:0<i.d:=by omega
  rw[N1 q2,N2 q2,N3 q2,N4 q2,N5 q2] at hz ⊢;unfold ellI;rw[if_neg (by omega),if_neg (by omega),yM hz]
theorem xD {i:Iq} (h:Hid (i.Sml 205)) {o:El} {k:Int} (ho:Hid (ellI i=(o,k))) {u:Value} {w:World} (hu:cS w u i) :
  Calls Tryz.prog 16 #[u] w fun e w'=>e = .returned (.tuple #[elV o,.int .i64 k])∧Below w.heap.size w w':=by
 have:=Ds i h.out u w hu;rwa [ho.out] at this
theorem cS.agg {w:World} {v:Value} {i:Iq} (h:cS w v i):∃ I:Array Value,v = .agg I∧I.size=21∧ones I=true:=by
 obtain⟨n0,o0,A0,l0,k0,n1,o1,A1,l1,k1,n2,o2,A2,l2,k2,n3,o3,A3,l3,k3,n4,o4,A4,l4,k4,n5,o5,A5,l5,k5,n6,o6,A6,l6,k6,rfl,-⟩:=h;exact⟨_,rfl,rfl,by simp[ones,Value.oneCell']⟩
theorem qL (i j:Iq) (k:Int):(mixQ i j k).2=0∨(mixQ i j k).2=1:=by unfold mixQ;split <;> simp
theorem xt {x y a b d e:Int} {i:Iq} (h:Hid (ofE ⟨x,y,a,b,d⟩=(i,e))) (w:World) :
  Calls Tryz.prog 159 #[elC x y a b d] w fun r w'=>(∃ v,r = .returned (.tuple #[v,.int .i64 e])∧cS w' v i)∧Below w.heap.size w w':=by
 have:=Fw x y a b d w;rw[h.out] at this;exact this
theorem xw {i j m:Iq} {k e:Int} (h:Hid (mixQ i j k=(m,e))) (hi:Hid (i.Sml 120)) (hj:Hid (j.Sml 120)) {u v:Value} {w:World} (hu:cS w u i) (hv:cS w v j) :
  Calls Tryz.prog 160 #[u,v,.int .i64 k] w fun r w'=>(∃ v,r = .returned (.tuple #[v,.int .i64 e])∧cS w' v m)∧Below w.heap.size w w':=by
 have:=Dp i j hi.out hj.out u v k w hu hv;rw[h.out] at this;exact this
theorem AT (x y a b d x' y' a' b' d' k:Int) (w:World) :
  Calls Tryz.prog 152 #[elC x y a b d,elC x' y' a' b' d',.int .i64 k] w fun e w'=>e = .returned (.tuple #[elV (fuseE ⟨x,y,a,b,d⟩ ⟨x',y',a',b',d'⟩ k).1,.int .i64 (fuseE ⟨x,y,a,b,d⟩ ⟨x',y',a',b',d'⟩ k).2])∧Below w.heap.size w w':=by
 obtain⟨i,er1,h1⟩:∃ i e,ofE ⟨x,y,a,b,d⟩=(i,e):=⟨_,_,rfl⟩;obtain⟨j,er2,h2⟩:∃ i e,ofE ⟨x',y',a',b',d'⟩=(i,e):=⟨_,_,rfl⟩;obtain⟨m,er3,h3⟩:∃ m e,mixQ i j k=(m,e):=⟨_,_,rfl⟩;have E0:fuseE ⟨x,y,a,b,d⟩ ⟨x',y',a',b',d'⟩ k=bU i j k (max er1 er2):=by unfold fuseE;rw[h1,h2]
 have q1:er1=0∨er1=1:=by have:=pw ⟨x,y,a,b,d⟩;rw[h1] at this;exact this
 have q2:er2=0∨er2=1:=by have:=pw ⟨x',y',a',b',d'⟩;rw[h2] at this;exact this
 have q3:er3=0∨er3=1:=by have:=qL i j k;rw[h3] at this;exact this
 have hi:Hid (i.Sml 120):=by have:=(el ⟨x,y,a,b,d⟩).sml (by decide) (by decide);rw[h1] at this;exact this
 have hj:Hid (j.Sml 120):=by have:=(el ⟨x',y',a',b',d'⟩).sml (by decide) (by decide);rw[h2] at this;exact this
 have hm:Hid (m.Sml 205):=by have:=rc ⟨x,y,a,b,d⟩ ⟨x',y',a',b',d'⟩ k;rw[h1,h2,h3] at this;exact this
 obtain⟨⟨ox,oy,oa,ob,od⟩,f,ho⟩:∃ o f,ellI m=(o,f):=⟨_,_,rfl⟩;have V1:Hid (er1=1→fuseE ⟨x,y,a,b,d⟩ ⟨x',y',a',b',d'⟩ k=(El.zero,1)):=by show _→_;intro h;rw[E0];unfold bU;rw[if_neg (by omega)]
 have V2:Hid (er2=1→fuseE ⟨x,y,a,b,d⟩ ⟨x',y',a',b',d'⟩ k=(El.zero,1)):=by show _→_;intro h;rw[E0];unfold bU;rw[if_neg (by omega)]
 have V3:Hid (er1=0→er2=0→er3=1→fuseE ⟨x,y,a,b,d⟩ ⟨x',y',a',b',d'⟩ k=(El.zero,1)):=by show _→_→_→_;intro h h' h'';rw[E0];unfold bU;rw[if_pos (by omega),h3,if_neg (by show ¬ er3=0;omega)]
 have V4:Hid (er1=0→er2=0→er3=0→fuseE ⟨x,y,a,b,d⟩ ⟨x',y',a',b',d'⟩ k=(⟨ox,oy,oa,ob,od⟩,f)):=by show _→_→_→_;intro h h' h'';rw[E0];unfold bU;rw[if_pos (by omega),h3,if_pos (show er3=0 from h''),ho]
 have H1:=Lh h1;have H2:=Lh h2;have H3:=Lh h3;have HO:=Lh ho;clear h1 h2 h3 ho E0;go_enter Tryz.func152,Tryz.ntmps152;go_wp2_with fail;obtain⟨u0,hu0⟩:∃ u,u=(((w).alloc (Obj.cells #[.int .i64 x,.int .i64 y,.int .i64 a,.int .i64 b,.int .i64 d] 27)).alloc (Obj.cells #[.int .i64 x',.int .i64 y',.int .i64 a',.int .i64 b',.int .i64 d'] 27)).alloc (Obj.cells #[.int .i64 0,.int .i64 0,.int .i64 0,.int .i64 0,.int .i64 0] 27):=⟨_,rfl⟩;rw[← hu0];have HB:=hB3 hu0;have X0:=b30 hu0;have X1:=b31 hu0;have X2:=b32 hu0;clear hu0;refine Calls.mono (xt H1 _) ?_;rintro e x1 ⟨⟨v,rfl,hq⟩,hb⟩;obtain⟨Ii,rfl,szi,oni⟩:=hq.agg;have Ci:=Lh hq;clear hq;replace X0:=Kp X0 hb;replace X1:=Kp X1 hb;replace X2:=Kp X2 hb;replace HB:=Tp HB hb;clear hb;have pt:=(Blk.new x1 #[.bool false,.bool false,.slice none 0 0,.bool false,.bool false,.slice none 0 0,.bool false,.bool false,.slice none 0 0,.bool false,.bool false,.slice none 0 0,.bool false,.bool false,.slice none 0 0,.bool false,.bool false,.slice none 0 0,.bool false,.bool false,.slice none 0 0] 54).put? 0 Ii (by rw[szi];exact Nat.le_refl _) oni;go_upto_region 2 with fail
 clear pt;obtain⟨u2,hu⟩:∃ u,u=(x1.alloc (Obj.cells #[.bool false,.bool false,.slice none 0 0,.bool false,.bool false,.slice none 0 0,.bool false,.bool false,.slice none 0 0,.bool false,.bool false,.slice none 0 0,.bool false,.bool false,.slice none 0 0,.bool false,.bool false,.slice none 0 0,.bool false,.bool false,.slice none 0 0] 54)).putRow x1.heap.size 0 Ii:=⟨_,rfl⟩;rw[← hu];obtain⟨gXI,hg⟩:∃ g,x1.heap.size=g:=⟨_,rfl⟩;have gw_XI:w.heap.size≤gXI:=by rw[← hg];exact HB.out.size
 have lt_X0_XI:w.heap.size<gXI:=by rw[← hg];exact X0.out.lt
 have lt_X1_XI:w.heap.size+1<gXI:=by rw[← hg];exact X1.out.lt
 have lt_X2_XI:w.heap.size+1+1<gXI:=by rw[← hg];exact X2.out.lt
 have hb:Below x1.heap.size x1 u2:=by rw[hu];exact ar ((Below.refl _ _).alloc (Nat.le_refl _) _) (Nat.le_refl _) _ _
 replace X0:=Kp X0 hb;replace X1:=Kp X1 hb;replace X2:=Kp X2 hb;replace Ci:=Lh (Ci.out.below hb);replace HB:=Tp HB hb;clear hb;have XI:Hid (Blk u2 gXI Ii 54):=by rw[hu,← hg];exact(Blk.new _ _ _).over (d:=Ii) (by rw[szi];rfl)
 rw[hg];clear hu hg;obtain⟨qX1a,qX1b,qX1c,qX1d,qX1e⟩:=cl5 X1;have rl_X1:=X1.out.lt;go_wp2_with fail;clear qX1a qX1b qX1c qX1d qX1e rl_X1;refine Calls.mono (xt H2 _) ?_;rintro e x3 ⟨⟨v,rfl,hq⟩,hb⟩;obtain⟨Ij,rfl,szj,onj⟩:=hq.agg;have Cj:=Lh hq;clear hq;replace X0:=Kp X0 hb;replace X1:=Kp X1 hb;replace X2:=Kp X2 hb;replace XI:=Kp XI hb;replace Ci:=Lh (Ci.out.below hb);replace HB:=Tp HB hb;clear hb;have pt:=(Blk.new x3 #[.bool false,.bool false,.slice none 0 0,.bool false,.bool false,.slice none 0 0,.bool false,.bool false,.slice none 0 0,.bool false,.bool false,.slice none 0 0,.bool false,.bool false,.slice none 0 0,.bool false,.bool false,.slice none 0 0,.bool false,.bool false,.slice none 0 0] 54).put? 0 Ij (by rw[szj];exact Nat.le_refl _) onj;go_upto_region 3 with fail
 clear pt;obtain⟨u4,hu⟩:∃ u,u=(x3.alloc (Obj.cells #[.bool false,.bool false,.slice none 0 0,.bool false,.bool false,.slice none 0 0,.bool false,.bool false,.slice none 0 0,.bool false,.bool false,.slice none 0 0,.bool false,.bool false,.slice none 0 0,.bool false,.bool false,.slice none 0 0,.bool false,.bool false,.slice none 0 0] 54)).putRow x3.heap.size 0 Ij:=⟨_,rfl⟩;rw[← hu];obtain⟨gXJ,hg⟩:∃ g,x3.heap.size=g:=⟨_,rfl⟩;have gw_XJ:w.heap.size≤gXJ:=by rw[← hg];exact HB.out.size
 have lt_X0_XJ:w.heap.size<gXJ:=by rw[← hg];exact X0.out.lt
 have lt_X1_XJ:w.heap.size+1<gXJ:=by rw[← hg];exact X1.out.lt
 have lt_X2_XJ:w.heap.size+1+1<gXJ:=by rw[← hg];exact X2.out.lt
 have lt_XI_XJ:gXI<gXJ:=by rw[← hg];exact XI.out.lt
 have hb:Below x3.heap.size x3 u4:=by rw[hu];exact ar ((Below.refl _ _).alloc (Nat.le_refl _) _) (Nat.le_refl _) _ _
 replace X0:=Kp X0 hb;replace X1:=Kp X1 hb;replace X2:=Kp X2 hb;replace XI:=Kp XI hb;replace Ci:=Lh (Ci.out.below hb);replace Cj:=Lh (Cj.out.below hb);replace HB:=Tp HB hb;clear hb;have XJ:Hid (Blk u4 gXJ Ij 54):=by rw[hu,← hg];exact(Blk.new _ _ _).over (d:=Ij) (by rw[szj];rfl)
 rw[hg];clear hu hg;rcases q1 with rfl|rfl
 ·rcases q2 with rfl|rfl
  ·have rw_XI:=XI.out.row?_all 21 szi;have rl_XI:=XI.out.lt;have rw_XJ:=XJ.out.row?_all 21 szj;have rl_XJ:=XJ.out.lt;go_wp2_with fail;clear rw_XI rl_XI rw_XJ rl_XJ;refine Calls.mono (xw H3 hi hj Ci.out Cj.out) ?_;rintro e x5 ⟨⟨v,rfl,hq⟩,hb⟩;obtain⟨Im,rfl,szm,onm⟩:=hq.agg;have Cm:=Lh hq;clear hq;replace X0:=Kp X0 hb;replace X1:=Kp X1 hb;replace X2:=Kp X2 hb;replace XI:=Kp XI hb;replace XJ:=Kp XJ hb;replace Ci:=Lh (Ci.out.below hb);replace Cj:=Lh (Cj.out.below hb);replace HB:=Tp HB hb;clear hb;have pt:=(Blk.new x5 #[.bool false,.bool false,.slice none 0 0,.bool false,.bool false,.slice none 0 0,.bool false,.bool false,.slice none 0 0,.bool false,.bool false,.slice none 0 0,.bool false,.bool false,.slice none 0 0,.bool false,.bool false,.slice none 0 0,.bool false,.bool false,.slice none 0 0] 54).put? 0 Im (by rw[szm];exact Nat.le_refl _) onm;go_upto_region 6 with fail
   clear pt;obtain⟨u6,hu⟩:∃ u,u=(x5.alloc (Obj.cells #[.bool false,.bool false,.slice none 0 0,.bool false,.bool false,.slice none 0 0,.bool false,.bool false,.slice none 0 0,.bool false,.bool false,.slice none 0 0,.bool false,.bool false,.slice none 0 0,.bool false,.bool false,.slice none 0 0,.bool false,.bool false,.slice none 0 0] 54)).putRow x5.heap.size 0 Im:=⟨_,rfl⟩;rw[← hu];obtain⟨gXM,hg⟩:∃ g,x5.heap.size=g:=⟨_,rfl⟩;have gw_XM:w.heap.size≤gXM:=by rw[← hg];exact HB.out.size
   have lt_X0_XM:w.heap.size<gXM:=by rw[← hg];exact X0.out.lt
   have lt_X1_XM:w.heap.size+1<gXM:=by rw[← hg];exact X1.out.lt
   have lt_X2_XM:w.heap.size+1+1<gXM:=by rw[← hg];exact X2.out.lt
   have lt_XI_XM:gXI<gXM:=by rw[← hg];exact XI.out.lt
   have lt_XJ_XM:gXJ<gXM:=by rw[← hg];exact XJ.out.lt
   have hb:Below x5.heap.size x5 u6:=by rw[hu];exact ar ((Below.refl _ _).alloc (Nat.le_refl _) _) (Nat.le_refl _) _ _
   replace X0:=Kp X0 hb;replace X1:=Kp X1 hb;replace X2:=Kp X2 hb;replace XI:=Kp XI hb;replace XJ:=Kp XJ hb;replace Ci:=Lh (Ci.out.below hb);replace Cj:=Lh (Cj.out.below hb);replace Cm:=Lh (Cm.out.below hb);replace HB:=Tp HB hb;clear hb;have XM:Hid (Blk u6 gXM Im 54):=by rw[hu,← hg];exact(Blk.new _ _ _).over (d:=Im) (by rw[szm];rfl)
   rw[hg];clear hu hg;rcases q3 with rfl|rfl
   ·have EV:Hid (fuseE ⟨x,y,a,b,d⟩ ⟨x',y',a',b',d'⟩ k=(⟨ox,oy,oa,ob,od⟩,f)):=Lh (by first|exact V4.out rfl rfl rfl|simpa using V4.out);have rw_XM:=XM.out.row?_all 21 szm;have rl_XM:=XM.out.lt;go_wp2_with fail;clear rw_XM rl_XM;refine Calls.mono (xD hm HO Cm.out) ?_;rintro e x7 ⟨rfl,hb⟩;replace X0:=Kp X0 hb;replace X1:=Kp X1 hb;replace X2:=Kp X2 hb;replace XI:=Kp XI hb;replace XJ:=Kp XJ hb;replace XM:=Kp XM hb;replace Ci:=Lh (Ci.out.below hb);replace Cj:=Lh (Cj.out.below hb);replace Cm:=Lh (Cm.out.below hb);replace HB:=Tp HB hb;clear hb;obtain⟨qX2a,qX2b,qX2c,qX2d,qX2e⟩:=cl5 X2;have rl_X2:=X2.out.lt;have fz_X2:=X2.out.frozen;have ft_X2:=X2.out.fits 5 (by simp);go_wp2_with fail;exact rT 5 #[.int .i64 ox,.int .i64 oy,.int .i64 oa,.int .i64 ob,.int .i64 od] (.int .i64 f) ⟨by rw[EV.out] <;> rfl,ad⟩
   ·have EV:Hid (fuseE ⟨x,y,a,b,d⟩ ⟨x',y',a',b',d'⟩ k=(El.zero,1)):=Lh (by first|exact V3.out rfl rfl rfl|simpa using V3.out);obtain⟨qX2a,qX2b,qX2c,qX2d,qX2e⟩:=cl5 X2;have rl_X2:=X2.out.lt;have fz_X2:=X2.out.frozen;have ft_X2:=X2.out.fits 5 (by simp);go_wp2_with fail;exact rT 5 z5 (.int .i64 1) ⟨by rw[EV.out] <;> rfl,ad⟩
  ·have EV:Hid (fuseE ⟨x,y,a,b,d⟩ ⟨x',y',a',b',d'⟩ k=(El.zero,1)):=Lh (by first|exact V2.out rfl|simpa using V2.out);obtain⟨qX2a,qX2b,qX2c,qX2d,qX2e⟩:=cl5 X2;have rl_X2:=X2.out.lt;have fz_X2:=X2.out.frozen;have ft_X2:=X2.out.fits 5 (by simp);go_wp2_with fail;exact rT 5 z5 (.int .i64 1) ⟨by rw[EV.out] <;> rfl,ad⟩
 ·have EV:Hid (fuseE ⟨x,y,a,b,d⟩ ⟨x',y',a',b',d'⟩ k=(El.zero,1)):=Lh (by first|exact V1.out rfl|simpa using V1.out);obtain⟨qX2a,qX2b,qX2c,qX2d,qX2e⟩:=cl5 X2;have rl_X2:=X2.out.lt;have fz_X2:=X2.out.frozen;have ft_X2:=X2.out.fits 5 (by simp);go_wp2_with fail;exact rT 5 z5 (.int .i64 1) ⟨by rw[EV.out] <;> rfl,ad⟩
theorem AS (x y a b d x' y' a' b' d' k ox oy oa ob od f:Int) (hv0:fuseE ⟨x,y,a,b,d⟩ ⟨x',y',a',b',d'⟩ k=(⟨ox,oy,oa,ob,od⟩,f)) (w:World) :
  Calls Tryz.prog 152 #[elC x y a b d,elC x' y' a' b' d',.int .i64 k] w fun r w'=>r = .returned (.tuple #[elC ox oy oa ob od,.int .i64 f])∧Below w.heap.size w w':=by
 have:=AT x y a b d x' y' a' b' d' k w;rw[hv0] at this;exact this
theorem AJ {a b c d lo hi e:Int} {i:Iq} (h:Hid (ofSt ⟨a,b,c,d,lo,hi⟩=(i,e))) (w:World) :
  Calls Tryz.prog 161 #[stC a b c d lo hi] w fun r w'=>(∃ v,r = .returned (.tuple #[v,.int .i64 e])∧cS w' v i)∧Below w.heap.size w w':=by
 have:=AK a b c d lo hi w;rw[h.out] at this;exact this
theorem Dv (x y a b d p q r s l h k:Int) (w:World) :
  Calls Tryz.prog 153 #[elC x y a b d,stC p q r s l h,.int .i64 k] w fun e w'=>e = .returned (.tuple #[elV (cutE ⟨x,y,a,b,d⟩ ⟨p,q,r,s,l,h⟩ k).1,.int .i64 (cutE ⟨x,y,a,b,d⟩ ⟨p,q,r,s,l,h⟩ k).2])∧Below w.heap.size w w':=by
 obtain⟨i,er1,h1⟩:∃ i e,ofE ⟨x,y,a,b,d⟩=(i,e):=⟨_,_,rfl⟩;obtain⟨j,er2,h2⟩:∃ i e,ofSt ⟨p,q,r,s,l,h⟩=(i,e):=⟨_,_,rfl⟩;obtain⟨m,er3,h3⟩:∃ m e,mixQ i j k=(m,e):=⟨_,_,rfl⟩;have E0:cutE ⟨x,y,a,b,d⟩ ⟨p,q,r,s,l,h⟩ k=bU i j k (max er1 er2):=by unfold cutE;rw[h1,h2]
 have q1:er1=0∨er1=1:=by have:=pw ⟨x,y,a,b,d⟩;rw[h1] at this;exact this
 have q2:er2=0∨er2=1:=by have:=x8 ⟨p,q,r,s,l,h⟩;rw[h2] at this;exact this
 have q3:er3=0∨er3=1:=by have:=qL i j k;rw[h3] at this;exact this
 have hi:Hid (i.Sml 120):=by have:=(el ⟨x,y,a,b,d⟩).sml (by decide) (by decide);rw[h1] at this;exact this
 have hj:Hid (j.Sml 120):=by have:=(mo ⟨p,q,r,s,l,h⟩).sml (by decide) (by decide);rw[h2] at this;exact this
 have hm:Hid (m.Sml 205):=by have:=uK ⟨x,y,a,b,d⟩ ⟨p,q,r,s,l,h⟩ k;rw[h1,h2,h3] at this;exact this
 obtain⟨⟨ox,oy,oa,ob,od⟩,f,ho⟩:∃ o f,ellI m=(o,f):=⟨_,_,rfl⟩;have V1:Hid (er1=1→cutE ⟨x,y,a,b,d⟩ ⟨p,q,r,s,l,h⟩ k=(El.zero,1)):=by show _→_;intro h;rw[E0];unfold bU;rw[if_neg (by omega)]
 have V2:Hid (er2=1→cutE ⟨x,y,a,b,d⟩ ⟨p,q,r,s,l,h⟩ k=(El.zero,1)):=by show _→_;intro h;rw[E0];unfold bU;rw[if_neg (by omega)]
 have V3:Hid (er1=0→er2=0→er3=1→cutE ⟨x,y,a,b,d⟩ ⟨p,q,r,s,l,h⟩ k=(El.zero,1)):=by show _→_→_→_;intro h h' h'';rw[E0];unfold bU;rw[if_pos (by omega),h3,if_neg (by show ¬ er3=0;omega)]
 have V4:Hid (er1=0→er2=0→er3=0→cutE ⟨x,y,a,b,d⟩ ⟨p,q,r,s,l,h⟩ k=(⟨ox,oy,oa,ob,od⟩,f)):=by show _→_→_→_;intro h h' h'';rw[E0];unfold bU;rw[if_pos (by omega),h3,if_pos (show er3=0 from h''),ho]
 have H1:=Lh h1;have H2:=Lh h2;have H3:=Lh h3;have HO:=Lh ho;clear h1 h2 h3 ho E0;go_enter Tryz.func153,Tryz.ntmps153;go_wp2_with fail;obtain⟨u0,hu0⟩:∃ u,u=(((w).alloc (Obj.cells #[.int .i64 x,.int .i64 y,.int .i64 a,.int .i64 b,.int .i64 d] 27)).alloc (Obj.cells #[.int .i64 p,.int .i64 q,.int .i64 r,.int .i64 s,.int .i64 l,.int .i64 h] 29)).alloc (Obj.cells #[.int .i64 0,.int .i64 0,.int .i64 0,.int .i64 0,.int .i64 0] 27):=⟨_,rfl⟩;rw[← hu0];have HB:=hB3 hu0;have X0:=b30 hu0;have X1:=b31 hu0;have X2:=b32 hu0;clear hu0;refine Calls.mono (xt H1 _) ?_;rintro e x1 ⟨⟨v,rfl,hq⟩,hb⟩;obtain⟨Ii,rfl,szi,oni⟩:=hq.agg;have Ci:=Lh hq;clear hq;replace X0:=Kp X0 hb;replace X1:=Kp X1 hb;replace X2:=Kp X2 hb;replace HB:=Tp HB hb;clear hb;have pt:=(Blk.new x1 #[.bool false,.bool false,.slice none 0 0,.bool false,.bool false,.slice none 0 0,.bool false,.bool false,.slice none 0 0,.bool false,.bool false,.slice none 0 0,.bool false,.bool false,.slice none 0 0,.bool false,.bool false,.slice none 0 0,.bool false,.bool false,.slice none 0 0] 54).put? 0 Ii (by rw[szi];exact Nat.le_refl _) oni;go_upto_region 2 with fail
 clear pt;obtain⟨u2,hu⟩:∃ u,u=(x1.alloc (Obj.cells #[.bool false,.bool false,.slice none 0 0,.bool false,.bool false,.slice none 0 0,.bool false,.bool false,.slice none 0 0,.bool false,.bool false,.slice none 0 0,.bool false,.bool false,.slice none 0 0,.bool false,.bool false,.slice none 0 0,.bool false,.bool false,.slice none 0 0] 54)).putRow x1.heap.size 0 Ii:=⟨_,rfl⟩;rw[← hu];obtain⟨gXI,hg⟩:∃ g,x1.heap.size=g:=⟨_,rfl⟩;have gw_XI:w.heap.size≤gXI:=by rw[← hg];exact HB.out.size
 have lt_X0_XI:w.heap.size<gXI:=by rw[← hg];exact X0.out.lt
 have lt_X1_XI:w.heap.size+1<gXI:=by rw[← hg];exact X1.out.lt
 have lt_X2_XI:w.heap.size+1+1<gXI:=by rw[← hg];exact X2.out.lt
 have hb:Below x1.heap.size x1 u2:=by rw[hu];exact ar ((Below.refl _ _).alloc (Nat.le_refl _) _) (Nat.le_refl _) _ _
 replace X0:=Kp X0 hb;replace X1:=Kp X1 hb;replace X2:=Kp X2 hb;replace Ci:=Lh (Ci.out.below hb);replace HB:=Tp HB hb;clear hb;have XI:Hid (Blk u2 gXI Ii 54):=by rw[hu,← hg];exact(Blk.new _ _ _).over (d:=Ii) (by rw[szi];rfl)
 rw[hg];clear hu hg;obtain⟨qX1a,qX1b,qX1c,qX1d,qX1e,qX1f⟩:=cl6 X1;have rl_X1:=X1.out.lt;go_wp2_with fail;clear qX1a qX1b qX1c qX1d qX1e qX1f rl_X1;refine Calls.mono (AJ H2 _) ?_;rintro e x3 ⟨⟨v,rfl,hq⟩,hb⟩;obtain⟨Ij,rfl,szj,onj⟩:=hq.agg;have Cj:=Lh hq;clear hq;replace X0:=Kp X0 hb;replace X1:=Kp X1 hb;replace X2:=Kp X2 hb;replace XI:=Kp XI hb;replace Ci:=Lh (Ci.out.below hb);replace HB:=Tp HB hb;clear hb;have pt:=(Blk.new x3 #[.bool false,.bool false,.slice none 0 0,.bool false,.bool false,.slice none 0 0,.bool false,.bool false,.slice none 0 0,.bool false,.bool false,.slice none 0 0,.bool false,.bool false,.slice none 0 0,.bool false,.bool false,.slice none 0 0,.bool false,.bool false,.slice none 0 0] 54).put? 0 Ij (by rw[szj];exact Nat.le_refl _) onj;go_upto_region 3 with fail
 clear pt;obtain⟨u4,hu⟩:∃ u,u=(x3.alloc (Obj.cells #[.bool false,.bool false,.slice none 0 0,.bool false,.bool false,.slice none 0 0,.bool false,.bool false,.slice none 0 0,.bool false,.bool false,.slice none 0 0,.bool false,.bool false,.slice none 0 0,.bool false,.bool false,.slice none 0 0,.bool false,.bool false,.slice none 0 0] 54)).putRow x3.heap.size 0 Ij:=⟨_,rfl⟩;rw[← hu];obtain⟨gXJ,hg⟩:∃ g,x3.heap.size=g:=⟨_,rfl⟩;have gw_XJ:w.heap.size≤gXJ:=by rw[← hg];exact HB.out.size
 have lt_X0_XJ:w.heap.size<gXJ:=by rw[← hg];exact X0.out.lt
 have lt_X1_XJ:w.heap.size+1<gXJ:=by rw[← hg];exact X1.out.lt
 have lt_X2_XJ:w.heap.size+1+1<gXJ:=by rw[← hg];exact X2.out.lt
 have lt_XI_XJ:gXI<gXJ:=by rw[← hg];exact XI.out.lt
 have hb:Below x3.heap.size x3 u4:=by rw[hu];exact ar ((Below.refl _ _).alloc (Nat.le_refl _) _) (Nat.le_refl _) _ _
 replace X0:=Kp X0 hb;replace X1:=Kp X1 hb;replace X2:=Kp X2 hb;replace XI:=Kp XI hb;replace Ci:=Lh (Ci.out.below hb);replace Cj:=Lh (Cj.out.below hb);replace HB:=Tp HB hb;clear hb;have XJ:Hid (Blk u4 gXJ Ij 54):=by rw[hu,← hg];exact(Blk.new _ _ _).over (d:=Ij) (by rw[szj];rfl)
 rw[hg];clear hu hg;rcases q1 with rfl|rfl
 ·rcases q2 with rfl|rfl
  ·have rw_XI:=XI.out.row?_all 21 szi;have rl_XI:=XI.out.lt;have rw_XJ:=XJ.out.row?_all 21 szj;have rl_XJ:=XJ.out.lt;go_wp2_with fail;clear rw_XI rl_XI rw_XJ rl_XJ;refine Calls.mono (xw H3 hi hj Ci.out Cj.out) ?_;rintro e x5 ⟨⟨v,rfl,hq⟩,hb⟩;obtain⟨Im,rfl,szm,onm⟩:=hq.agg;have Cm:=Lh hq;clear hq;replace X0:=Kp X0 hb;replace X1:=Kp X1 hb;replace X2:=Kp X2 hb;replace XI:=Kp XI hb;replace XJ:=Kp XJ hb;replace Ci:=Lh (Ci.out.below hb);replace Cj:=Lh (Cj.out.below hb);replace HB:=Tp HB hb;clear hb;have pt:=(Blk.new x5 #[.bool false,.bool false,.slice none 0 0,.bool false,.bool false,.slice none 0 0,.bool false,.bool false,.slice none 0 0,.bool false,.bool false,.slice none 0 0,.bool false,.bool false,.slice none 0 0,.bool false,.bool false,.slice none 0 0,.bool false,.bool false,.slice none 0 0] 54).put? 0 Im (by rw[szm];exact Nat.le_refl _) onm;go_upto_region 6 with fail
   clear pt;obtain⟨u6,hu⟩:∃ u,u=(x5.alloc (Obj.cells #[.bool false,.bool false,.slice none 0 0,.bool false,.bool false,.slice none 0 0,.bool false,.bool false,.slice none 0 0,.bool false,.bool false,.slice none 0 0,.bool false,.bool false,.slice none 0 0,.bool false,.bool false,.slice none 0 0,.bool false,.bool false,.slice none 0 0] 54)).putRow x5.heap.size 0 Im:=⟨_,rfl⟩;rw[← hu];obtain⟨gXM,hg⟩:∃ g,x5.heap.size=g:=⟨_,rfl⟩;have gw_XM:w.heap.size≤gXM:=by rw[← hg];exact HB.out.size
   have lt_X0_XM:w.heap.size<gXM:=by rw[← hg];exact X0.out.lt
   have lt_X1_XM:w.heap.size+1<gXM:=by rw[← hg];exact X1.out.lt
   have lt_X2_XM:w.heap.size+1+1<gXM:=by rw[← hg];exact X2.out.lt
   have lt_XI_XM:gXI<gXM:=by rw[← hg];exact XI.out.lt
   have lt_XJ_XM:gXJ<gXM:=by rw[← hg];exact XJ.out.lt
   have hb:Below x5.heap.size x5 u6:=by rw[hu];exact ar ((Below.refl _ _).alloc (Nat.le_refl _) _) (Nat.le_refl _) _ _
   replace X0:=Kp X0 hb;replace X1:=Kp X1 hb;replace X2:=Kp X2 hb;replace XI:=Kp XI hb;replace XJ:=Kp XJ hb;replace Ci:=Lh (Ci.out.below hb);replace Cj:=Lh (Cj.out.below hb);replace Cm:=Lh (Cm.out.below hb);replace HB:=Tp HB hb;clear hb;have XM:Hid (Blk u6 gXM Im 54):=by rw[hu,← hg];exact(Blk.new _ _ _).over (d:=Im) (by rw[szm];rfl)
   rw[hg];clear hu hg;rcases q3 with rfl|rfl
   ·have EV:Hid (cutE ⟨x,y,a,b,d⟩ ⟨p,q,r,s,l,h⟩ k=(⟨ox,oy,oa,ob,od⟩,f)):=Lh (by first|exact V4.out rfl rfl rfl|simpa using V4.out);have rw_XM:=XM.out.row?_all 21 szm;have rl_XM:=XM.out.lt;go_wp2_with fail;clear rw_XM rl_XM;refine Calls.mono (xD hm HO Cm.out) ?_;rintro e x7 ⟨rfl,hb⟩;replace X0:=Kp X0 hb;replace X1:=Kp X1 hb;replace X2:=Kp X2 hb;replace XI:=Kp XI hb;replace XJ:=Kp XJ hb;replace XM:=Kp XM hb;replace Ci:=Lh (Ci.out.below hb);replace Cj:=Lh (Cj.out.below hb);replace Cm:=Lh (Cm.out.below hb);replace HB:=Tp HB hb;clear hb;obtain⟨qX2a,qX2b,qX2c,qX2d,qX2e⟩:=cl5 X2;have rl_X2:=X2.out.lt;have fz_X2:=X2.out.frozen;have ft_X2:=X2.out.fits 5 (by simp);go_wp2_with fail;exact rT 5 #[.int .i64 ox,.int .i64 oy,.int .i64 oa,.int .i64 ob,.int .i64 od] (.int .i64 f) ⟨by rw[EV.out] <;> rfl,ad⟩
   ·have EV:Hid (cutE ⟨x,y,a,b,d⟩ ⟨p,q,r,s,l,h⟩ k=(El.zero,1)):=Lh (by first|exact V3.out rfl rfl rfl|simpa using V3.out);obtain⟨qX2a,qX2b,qX2c,qX2d,qX2e⟩:=cl5 X2;have rl_X2:=X2.out.lt;have fz_X2:=X2.out.frozen;have ft_X2:=X2.out.fits 5 (by simp);go_wp2_with fail;exact rT 5 z5 (.int .i64 1) ⟨by rw[EV.out] <;> rfl,ad⟩
  ·have EV:Hid (cutE ⟨x,y,a,b,d⟩ ⟨p,q,r,s,l,h⟩ k=(El.zero,1)):=Lh (by first|exact V2.out rfl|simpa using V2.out);obtain⟨qX2a,qX2b,qX2c,qX2d,qX2e⟩:=cl5 X2;have rl_X2:=X2.out.lt;have fz_X2:=X2.out.frozen;have ft_X2:=X2.out.fits 5 (by simp);go_wp2_with fail;exact rT 5 z5 (.int .i64 1) ⟨by rw[EV.out] <;> rfl,ad⟩
 ·have EV:Hid (cutE ⟨x,y,a,b,d⟩ ⟨p,q,r,s,l,h⟩ k=(El.zero,1)):=Lh (by first|exact V1.out rfl|simpa using V1.out);obtain⟨qX2a,qX2b,qX2c,qX2d,qX2e⟩:=cl5 X2;have rl_X2:=X2.out.lt;have fz_X2:=X2.out.frozen;have ft_X2:=X2.out.fits 5 (by simp);go_wp2_with fail;exact rT 5 z5 (.int .i64 1) ⟨by rw[EV.out] <;> rfl,ad⟩
theorem Du (x y a b d p q r s l h k ox oy oa ob od f:Int) (hv0:cutE ⟨x,y,a,b,d⟩ ⟨p,q,r,s,l,h⟩ k=(⟨ox,oy,oa,ob,od⟩,f)) (w:World) :
  Calls Tryz.prog 153 #[elC x y a b d,stC p q r s l h,.int .i64 k] w fun r w'=>r = .returned (.tuple #[elC ox oy oa ob od,.int .i64 f])∧Below w.heap.size w w':=by
 have:=Dv x y a b d p q r s l h k w;rw[hv0] at this;exact this
end Go.Proofs.YtnoidlacjiafdaaGreat
