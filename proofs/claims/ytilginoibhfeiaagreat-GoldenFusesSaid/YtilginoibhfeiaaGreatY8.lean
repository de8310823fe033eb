/- Laws. -/
import Derived.Test.YtilginoibhfeiaaGreatY7
set_option maxRecDepth 100000
set_option maxHeartbeats 16000000
namespace Go.Proofs.YtilginoibhfeiaaGreat
open Go.RowKit
theorem InfoQ.agg {w:World} {v:Value} {i:Iq} (h:InfoQ w v i):∃ I:Array Value,v = .agg I∧I.size=21∧ones I=true:=by
 obtain ⟨n0,o0,A0,l0,k0,n1,o1,A1,l1,k1,n2,o2,A2,l2,k2,n3,o3,A3,l3,k3,n4,o4,A4,l4,k4,n5,o5,A5,l5,k5,n6,o6,A6,l6,k6,rfl,-⟩:=h
 exact ⟨_,rfl,rfl,by simp [ones,Value.oneCell']⟩
theorem mixQ_err (i j:Iq) (k:Int):(mixQ i j k).2=0∨(mixQ i j k).2=1:=by unfold mixQ;split <;> simp
theorem rof_v {x y a b d e:Int} {i:Iq} (h:Hid (ofE ⟨x,y,a,b,d⟩=(i,e))) (w:World) :
  Calls Tryz.prog 32 #[elC x y a b d] w fun r w'=>(∃ v,r = .returned (.tuple #[v,.int .i64 e])∧InfoQ w' v i)∧Below w.heap.size w w':=by
 have:=rof_c x y a b d w
 rw [h.out] at this;exact this
theorem rmix_v {i j m:Iq} {k e:Int} (h:Hid (mixQ i j k=(m,e))) (hi:Hid (i.Sml 120)) (hj:Hid (j.Sml 120)) {u v:Value} {w:World} (hu:InfoQ w u i) (hv:InfoQ w v j) :
  Calls Tryz.prog 41 #[u,v,.int .i64 k] w fun r w'=>(∃ v,r = .returned (.tuple #[v,.int .i64 e])∧InfoQ w' v m)∧Below w.heap.size w w':=by
 have:=rmix_c i j hi.out hj.out u v k w hu hv
 rw [h.out] at this;exact this
theorem rfuse_c (x y a b d x' y' a' b' d' k:Int) (w:World) :
  Calls Tryz.prog 48 #[elC x y a b d,elC x' y' a' b' d',.int .i64 k] w fun e w'=>e = .returned (.tuple #[elV (fuseE ⟨x,y,a,b,d⟩ ⟨x',y',a',b',d'⟩ k).1,.int .i64 (fuseE ⟨x,y,a,b,d⟩ ⟨x',y',a',b',d'⟩ k).2])∧Below w.heap.size w w':=by
 obtain ⟨i,er1,h1⟩:∃ i e,ofE ⟨x,y,a,b,d⟩=(i,e):=⟨_,_,rfl⟩
 obtain ⟨j,er2,h2⟩:∃ i e,ofE ⟨x',y',a',b',d'⟩=(i,e):=⟨_,_,rfl⟩
 obtain ⟨m,er3,h3⟩:∃ m e,mixQ i j k=(m,e):=⟨_,_,rfl⟩
 have E0:fuseE ⟨x,y,a,b,d⟩ ⟨x',y',a',b',d'⟩ k=mixedV i j k (max er1 er2):=by unfold fuseE;rw [h1,h2]
 have q1:er1=0∨er1=1:=by have:=ofE_err ⟨x,y,a,b,d⟩;rw [h1] at this;exact this
 have q2:er2=0∨er2=1:=by have:=ofE_err ⟨x',y',a',b',d'⟩;rw [h2] at this;exact this
 have q3:er3=0∨er3=1:=by have:=mixQ_err i j k;rw [h3] at this;exact this
 have hi:Hid (i.Sml 120):=by have:=(ofE_cls ⟨x,y,a,b,d⟩).sml (by decide) (by decide);rw [h1] at this;exact this
 have hj:Hid (j.Sml 120):=by have:=(ofE_cls ⟨x',y',a',b',d'⟩).sml (by decide) (by decide);rw [h2] at this;exact this
 have hm:Hid (m.Sml 205):=by have:=fuse_sml ⟨x,y,a,b,d⟩ ⟨x',y',a',b',d'⟩ k;rw [h1,h2,h3] at this;exact this
 obtain ⟨⟨ox,oy,oa,ob,od⟩,f,ho⟩:∃ o f,ellI m=(o,f):=⟨_,_,rfl⟩
 have V1:Hid (er1=1→fuseE ⟨x,y,a,b,d⟩ ⟨x',y',a',b',d'⟩ k=(El.zero,1)):=by show _→_;intro h;rw [E0];unfold mixedV;rw [if_neg (by omega)]
 have V2:Hid (er2=1→fuseE ⟨x,y,a,b,d⟩ ⟨x',y',a',b',d'⟩ k=(El.zero,1)):=by show _→_;intro h;rw [E0];unfold mixedV;rw [if_neg (by omega)]
 have V3:Hid (er1=0→er2=0→er3=1→fuseE ⟨x,y,a,b,d⟩ ⟨x',y',a',b',d'⟩ k=(El.zero,1)):=by show _→_→_→_;intro h h' h'';rw [E0];unfold mixedV;rw [if_pos (by omega),h3,if_neg (by show ¬ er3=0;omega)]
 have V4:Hid (er1=0→er2=0→er3=0→fuseE ⟨x,y,a,b,d⟩ ⟨x',y',a',b',d'⟩ k=(⟨ox,oy,oa,ob,od⟩,f)):=by show _→_→_→_;intro h h' h'';rw [E0];unfold mixedV;rw [if_pos (by omega),h3,if_pos (show er3=0 from h''),ho]
 have H1:=Lh h1
 have H2:=Lh h2
 have H3:=Lh h3
 have HO:=Lh ho
 clear h1 h2 h3 ho E0
 go_enter Tryz.func48,Tryz.ntmps48
 go_wp2_with fail
 obtain ⟨u0,hu0⟩:∃ u,u=(((w).alloc (Obj.cells #[.int .i64 x,.int .i64 y,.int .i64 a,.int .i64 b,.int .i64 d] 27)).alloc (Obj.cells #[.int .i64 x',.int .i64 y',.int .i64 a',.int .i64 b',.int .i64 d'] 27)).alloc (Obj.cells #[.int .i64 0,.int .i64 0,.int .i64 0,.int .i64 0,.int .i64 0] 27):=⟨_,rfl⟩
 rw [← hu0]
 have HB:Hid (Below w.heap.size w u0):=by rw [hu0];show Below w.heap.size w _;exact below_byR
 have X0:Hid (Blk u0 (w.heap.size) #[.int .i64 x,.int .i64 y,.int .i64 a,.int .i64 b,.int .i64 d] 27):=by rw [hu0];exact ((Blk.new' _ _ _ (by simp)).alloc _).alloc _
 have X1:Hid (Blk u0 (w.heap.size+1) #[.int .i64 x',.int .i64 y',.int .i64 a',.int .i64 b',.int .i64 d'] 27):=by rw [hu0];exact (Blk.new' _ _ _ (by simp)).alloc _
 have X2:Hid (Blk u0 (w.heap.size+1+1) #[.int .i64 0,.int .i64 0,.int .i64 0,.int .i64 0,.int .i64 0] 27):=by rw [hu0];exact Blk.new' _ _ _ (by simp)
 clear hu0
 refine Calls.mono (rof_v H1 _) ?_
 rintro e x1 ⟨⟨v,rfl,hq⟩,hb⟩
 obtain ⟨Ii,rfl,szi,oni⟩:=hq.agg
 have Ci:=Lh hq
 clear hq
 replace X0:=Kp X0 hb
 replace X1:=Kp X1 hb
 replace X2:=Kp X2 hb
 replace HB:=Tp HB hb
 clear hb
 have pt:=(Blk.new x1 #[.bool false,.bool false,.slice none 0 0,.bool false,.bool false,.slice none 0 0,.bool false,.bool false,.slice none 0 0,.bool false,.bool false,.slice none 0 0,.bool false,.bool false,.slice none 0 0,.bool false,.bool false,.slice none 0 0,.bool false,.bool false,.slice none 0 0] 67).put? 0 Ii (by rw [szi];exact Nat.le_refl _) oni
 go_upto_region 2 with fail
 clear pt
 obtain ⟨u2,hu⟩:∃ u,u=(x1.alloc (Obj.cells #[.bool false,.bool false,.slice none 0 0,.bool false,.bool false,.slice none 0 0,.bool false,.bool false,.slice none 0 0,.bool false,.bool false,.slice none 0 0,.bool false,.bool false,.slice none 0 0,.bool false,.bool false,.slice none 0 0,.bool false,.bool false,.slice none 0 0] 67)).putRow x1.heap.size 0 Ii:=⟨_,rfl⟩
 rw [← hu]
 obtain ⟨gXI,hg⟩:∃ g,x1.heap.size=g:=⟨_,rfl⟩
 have gw_XI:w.heap.size≤gXI:=by rw [← hg];exact HB.out.size
 have lt_X0_XI:w.heap.size<gXI:=by rw [← hg];exact X0.out.lt
 have lt_X1_XI:w.heap.size+1<gXI:=by rw [← hg];exact X1.out.lt
 have lt_X2_XI:w.heap.size+1+1<gXI:=by rw [← hg];exact X2.out.lt
 have hb:Below x1.heap.size x1 u2:=by rw [hu];exact Below_putRow ((Below.refl _ _).alloc (Nat.le_refl _) _) (Nat.le_refl _) _ _
 replace X0:=Kp X0 hb
 replace X1:=Kp X1 hb
 replace X2:=Kp X2 hb
 replace Ci:=Lh (Ci.out.below hb)
 replace HB:=Tp HB hb
 clear hb
 have XI:Hid (Blk u2 gXI Ii 67):=by rw [hu,← hg];exact (Blk.new _ _ _).over (d:=Ii) (by rw [szi];rfl)
 rw [hg]
 clear hu hg
 obtain ⟨qX1a,qX1b,qX1c,qX1d,qX1e⟩:=cl5 X1
 have rl_X1:=X1.out.lt
 go_wp2_with fail
 clear qX1a qX1b qX1c qX1d qX1e rl_X1
 refine Calls.mono (rof_v H2 _) ?_
 rintro e x3 ⟨⟨v,rfl,hq⟩,hb⟩
 obtain ⟨Ij,rfl,szj,onj⟩:=hq.agg
 have Cj:=Lh hq
 clear hq
 replace X0:=Kp X0 hb
 replace X1:=Kp X1 hb
 replace X2:=Kp X2 hb
 replace XI:=Kp XI hb
 replace Ci:=Lh (Ci.out.below hb)
 replace HB:=Tp HB hb
 clear hb
 have pt:=(Blk.new x3 #[.bool false,.bool false,.slice none 0 0,.bool false,.bool false,.slice none 0 0,.bool false,.bool false,.slice none 0 0,.bool false,.bool false,.slice none 0 0,.bool false,.bool false,.slice none 0 0,.bool false,.bool false,.slice none 0 0,.bool false,.bool false,.slice none 0 0] 67).put? 0 Ij (by rw [szj];exact Nat.le_refl _) onj
 go_upto_region 3 with fail
 clear pt
 obtain ⟨u4,hu⟩:∃ u,u=(x3.alloc (Obj.cells #[.bool false,.bool false,.slice none 0 0,.bool false,.bool false,.slice none 0 0,.bool false,.bool false,.slice none 0 0,.bool false,.bool false,.slice none 0 0,.bool false,.bool false,.slice none 0 0,.bool false,.bool false,.slice none 0 0,.bool false,.bool false,.slice none 0 0] 67)).putRow x3.heap.size 0 Ij:=⟨_,rfl⟩
 rw [← hu]
 obtain ⟨gXJ,hg⟩:∃ g,x3.heap.size=g:=⟨_,rfl⟩
 have gw_XJ:w.heap.size≤gXJ:=by rw [← hg];exact HB.out.size
 have lt_X0_XJ:w.heap.size<gXJ:=by rw [← hg];exact X0.out.lt
 have lt_X1_XJ:w.heap.size+1<gXJ:=by rw [← hg];exact X1.out.lt
 have lt_X2_XJ:w.heap.size+1+1<gXJ:=by rw [← hg];exact X2.out.lt
 have lt_XI_XJ:gXI<gXJ:=by rw [← hg];exact XI.out.lt
 have hb:Below x3.heap.size x3 u4:=by rw [hu];exact Below_putRow ((Below.refl _ _).alloc (Nat.le_refl _) _) (Nat.le_refl _) _ _
 replace X0:=Kp X0 hb
 replace X1:=Kp X1 hb
 replace X2:=Kp X2 hb
 replace XI:=Kp XI hb
 replace Ci:=Lh (Ci.out.below hb)
 replace Cj:=Lh (Cj.out.below hb)
 replace HB:=Tp HB hb
 clear hb
 have XJ:Hid (Blk u4 gXJ Ij 67):=by rw [hu,← hg];exact (Blk.new _ _ _).over (d:=Ij) (by rw [szj];rfl)
 rw [hg]
 clear hu hg
 rcases q1 with rfl|rfl
 ·rcases q2 with rfl|rfl
  ·have rw_XI:=XI.out.row?_all 21 szi
   have rl_XI:=XI.out.lt
   have rw_XJ:=XJ.out.row?_all 21 szj
   have rl_XJ:=XJ.out.lt
   go_wp2_with fail
   clear rw_XI rl_XI rw_XJ rl_XJ
   refine Calls.mono (rmix_v H3 hi hj Ci.out Cj.out) ?_
   rintro e x5 ⟨⟨v,rfl,hq⟩,hb⟩
   obtain ⟨Im,rfl,szm,onm⟩:=hq.agg
   have Cm:=Lh hq
   clear hq
   replace X0:=Kp X0 hb
   replace X1:=Kp X1 hb
   replace X2:=Kp X2 hb
   replace XI:=Kp XI hb
   replace XJ:=Kp XJ hb
   replace Ci:=Lh (Ci.out.below hb)
   replace Cj:=Lh (Cj.out.below hb)
   replace HB:=Tp HB hb
   clear hb
   have pt:=(Blk.new x5 #[.bool false,.bool false,.slice none 0 0,.bool false,.bool false,.slice none 0 0,.bool false,.bool false,.slice none 0 0,.bool false,.bool false,.slice none 0 0,.bool false,.bool false,.slice none 0 0,.bool false,.bool false,.slice none 0 0,.bool false,.bool false,.slice none 0 0] 67).put? 0 Im (by rw [szm];exact Nat.le_refl _) onm
   go_upto_region 6 with fail
   clear pt
   obtain ⟨u6,hu⟩:∃ u,u=(x5.alloc (Obj.cells #[.bool false,.bool false,.slice none 0 0,.bool false,.bool false,.slice none 0 0,.bool false,.bool false,.slice none 0 0,.bool false,.bool false,.slice none 0 0,.bool false,.bool false,.slice none 0 0,.bool false,.bool false,.slice none 0 0,.bool false,.bool false,.slice none 0 0] 67)).putRow x5.heap.size 0 Im:=⟨_,rfl⟩
   rw [← hu]
   obtain ⟨gXM,hg⟩:∃ g,x5.heap.size=g:=⟨_,rfl⟩
   have gw_XM:w.heap.size≤gXM:=by rw [← hg];exact HB.out.size
   have lt_X0_XM:w.heap.size<gXM:=by rw [← hg];exact X0.out.lt
   have lt_X1_XM:w.heap.size+1<gXM:=by rw [← hg];exact X1.out.lt
   have lt_X2_XM:w.heap.size+1+1<gXM:=by rw [← hg];exact X2.out.lt
   have lt_XI_XM:gXI<gXM:=by rw [← hg];exact XI.out.lt
   have lt_XJ_XM:gXJ<gXM:=by rw [← hg];exact XJ.out.lt
   have hb:Below x5.heap.size x5 u6:=by rw [hu];exact Below_putRow ((Below.refl _ _).alloc (Nat.le_refl _) _) (Nat.le_refl _) _ _
   replace X0:=Kp X0 hb
   replace X1:=Kp X1 hb
   replace X2:=Kp X2 hb
   replace XI:=Kp XI hb
   replace XJ:=Kp XJ hb
   replace Ci:=Lh (Ci.out.below hb)
   replace Cj:=Lh (Cj.out.below hb)
   replace Cm:=Lh (Cm.out.below hb)
   replace HB:=Tp HB hb
   clear hb
   have XM:Hid (Blk u6 gXM Im 67):=by rw [hu,← hg];exact (Blk.new _ _ _).over (d:=Im) (by rw [szm];rfl)
   rw [hg]
   clear hu hg
   rcases q3 with rfl|rfl
   ·have EV:Hid (fuseE ⟨x,y,a,b,d⟩ ⟨x',y',a',b',d'⟩ k=(⟨ox,oy,oa,ob,od⟩,f)):=Lh (by first|exact V4.out rfl rfl rfl|simpa using V4.out)
    have rw_XM:=XM.out.row?_all 21 szm
    have rl_XM:=XM.out.lt
    go_wp2_with fail
    clear rw_XM rl_XM
    refine Calls.mono (rell_v hm HO Cm.out) ?_
    rintro e x7 ⟨rfl,hb⟩
    replace X0:=Kp X0 hb
    replace X1:=Kp X1 hb
    replace X2:=Kp X2 hb
    replace XI:=Kp XI hb
    replace XJ:=Kp XJ hb
    replace XM:=Kp XM hb
    replace Ci:=Lh (Ci.out.below hb)
    replace Cj:=Lh (Cj.out.below hb)
    replace Cm:=Lh (Cm.out.below hb)
    replace HB:=Tp HB hb
    clear hb
    obtain ⟨qX2a,qX2b,qX2c,qX2d,qX2e⟩:=cl5 X2
    have rl_X2:=X2.out.lt
    have fz_X2:=X2.out.frozen
    have ft_X2:=X2.out.fits 5 (by simp)
    go_wp2_with fail
    exact bodyPost_row_t 5 #[.int .i64 ox,.int .i64 oy,.int .i64 oa,.int .i64 ob,.int .i64 od] (.int .i64 f) rfl rfl rfl rfl Tryz.underlying27 rfl (by kernel_rfl) (rc5 (by go_simp) (by go_simp) (by go_simp) (by go_simp) (by go_simp)) ⟨by rw [EV.out] <;> rfl,below_byR⟩
   ·have EV:Hid (fuseE ⟨x,y,a,b,d⟩ ⟨x',y',a',b',d'⟩ k=(El.zero,1)):=Lh (by first|exact V3.out rfl rfl rfl|simpa using V3.out)
    obtain ⟨qX2a,qX2b,qX2c,qX2d,qX2e⟩:=cl5 X2
    have rl_X2:=X2.out.lt
    have fz_X2:=X2.out.frozen
    have ft_X2:=X2.out.fits 5 (by simp)
    go_wp2_with fail
    exact bodyPost_row_t 5 #[.int .i64 0,.int .i64 0,.int .i64 0,.int .i64 0,.int .i64 0] (.int .i64 1) rfl rfl rfl rfl Tryz.underlying27 rfl (by kernel_rfl) (rc5 (by go_simp) (by go_simp) (by go_simp) (by go_simp) (by go_simp)) ⟨by rw [EV.out] <;> rfl,below_byR⟩
  ·have EV:Hid (fuseE ⟨x,y,a,b,d⟩ ⟨x',y',a',b',d'⟩ k=(El.zero,1)):=Lh (by first|exact V2.out rfl|simpa using V2.out)
   obtain ⟨qX2a,qX2b,qX2c,qX2d,qX2e⟩:=cl5 X2
   have rl_X2:=X2.out.lt
   have fz_X2:=X2.out.frozen
   have ft_X2:=X2.out.fits 5 (by simp)
   go_wp2_with fail
   exact bodyPost_row_t 5 #[.int .i64 0,.int .i64 0,.int .i64 0,.int .i64 0,.int .i64 0] (.int .i64 1) rfl rfl rfl rfl Tryz.underlying27 rfl (by kernel_rfl) (rc5 (by go_simp) (by go_simp) (by go_simp) (by go_simp) (by go_simp)) ⟨by rw [EV.out] <;> rfl,below_byR⟩
 ·have EV:Hid (fuseE ⟨x,y,a,b,d⟩ ⟨x',y',a',b',d'⟩ k=(El.zero,1)):=Lh (by first|exact V1.out rfl|simpa using V1.out)
  obtain ⟨qX2a,qX2b,qX2c,qX2d,qX2e⟩:=cl5 X2
  have rl_X2:=X2.out.lt
  have fz_X2:=X2.out.frozen
  have ft_X2:=X2.out.fits 5 (by simp)
  go_wp2_with fail
  exact bodyPost_row_t 5 #[.int .i64 0,.int .i64 0,.int .i64 0,.int .i64 0,.int .i64 0] (.int .i64 1) rfl rfl rfl rfl Tryz.underlying27 rfl (by kernel_rfl) (rc5 (by go_simp) (by go_simp) (by go_simp) (by go_simp) (by go_simp)) ⟨by rw [EV.out] <;> rfl,below_byR⟩
theorem rfuse_v (x y a b d x' y' a' b' d' k ox oy oa ob od f:Int) (hv0:fuseE ⟨x,y,a,b,d⟩ ⟨x',y',a',b',d'⟩ k=(⟨ox,oy,oa,ob,od⟩,f)) (w:World) :
  Calls Tryz.prog 48 #[elC x y a b d,elC x' y' a' b' d',.int .i64 k] w fun r w'=>r = .returned (.tuple #[elC ox oy oa ob od,.int .i64 f])∧Below w.heap.size w w':=by
 have:=rfuse_c x y a b d x' y' a' b' d' k w
 rw [hv0] at this;exact this
end Go.Proofs.YtilginoibhfeiaaGreat
