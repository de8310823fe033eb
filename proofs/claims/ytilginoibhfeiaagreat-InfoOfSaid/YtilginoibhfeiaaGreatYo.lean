/- The walk of InfoOf. -/
import Derived.Test.YtilginoibhfeiaaGreatRJ
import Derived.Test.YtilginoibhfeiaaGreatYl
import Derived.Test.YtilginoibhfeiaaGreatYj
import Derived.Test.YtilginoibhfeiaaGreatY9
set_option maxRecDepth 100000
set_option maxHeartbeats 16000000
namespace Go.Proofs.YtilginoibhfeiaaGreat
set_option linter.unusedSimpArgs false
open Go.RowKit
theorem iq_arr (i:Iq):∃ A:Array Value,blk i.ws=A∧A.size=126∧ones A=true:=⟨_,rfl,by simp [Iq.ws],by simp [Iq.ws]⟩
theorem infoOf6_c (x y a b d x' y' a' b' d' sa sb sc sd sl sh wt p q:Int) (w:World) :
  Calls Tryz.prog 6 #[elC x y a b d,elC x' y' a' b' d',stC sa sb sc sd sl sh,.int .i64 wt,ptV p q] w fun e w'=>e = .returned (.bool true)∧Below w.heap.size w w':=by
 obtain ⟨i,er1,h1⟩:∃ i e,ofE ⟨x,y,a,b,d⟩=(i,e):=⟨_,_,rfl⟩
 obtain ⟨j,er2,h2⟩:∃ i e,ofE ⟨x',y',a',b',d'⟩=(i,e):=⟨_,_,rfl⟩
 obtain ⟨g,er3,h3⟩:∃ i e,ofSt ⟨sa,sb,sc,sd,sl,sh⟩=(i,e):=⟨_,_,rfl⟩
 obtain ⟨m,er4,h4⟩:∃ m e,mixQ i j wt=(m,e):=⟨_,_,rfl⟩
 obtain ⟨n,er5,h5⟩:∃ m e,mixQ i g wt=(m,e):=⟨_,_,rfl⟩
 have hi:i.Sml 120:=by have:=(ofE_cls ⟨x,y,a,b,d⟩).sml (by decide) (by decide);rw [h1] at this;exact this
 have hj:j.Sml 120:=by have:=(ofE_cls ⟨x',y',a',b',d'⟩).sml (by decide) (by decide);rw [h2] at this;exact this
 have hg0:g.Sml 120:=by have:=(ofSt_cls ⟨sa,sb,sc,sd,sl,sh⟩).sml (by decide) (by decide);rw [h3] at this;exact this
 have hm:m.Sml 205:=by have:=fuse_sml ⟨x,y,a,b,d⟩ ⟨x',y',a',b',d'⟩ wt;rw [h1,h2,h4] at this;exact this
 have hn:n.Sml 205:=by have:=cut_sml ⟨x,y,a,b,d⟩ ⟨sa,sb,sc,sd,sl,sh⟩ wt;rw [h1,h3,h5] at this;exact this
 obtain ⟨Pi,ei,pzi,pni⟩:=iq_arr i
 obtain ⟨Pj,ej,pzj,pnj⟩:=iq_arr j
 obtain ⟨Pg,eg,pzg,png⟩:=iq_arr g
 obtain ⟨Pm,em,pzm,pnm⟩:=iq_arr m
 obtain ⟨Pn,en,pzn,pnn⟩:=iq_arr n
 obtain ⟨bi,hbi⟩:∃ z,hasQ i p q=z:=⟨_,rfl⟩
 have Ni:Hid (∀ w,Calls Tryz.prog 38 #[.agg Pi,ptV p q] w fun e w'=>e = .returned (.bool bi)∧Below w.heap.size w w'):=Lh (fun w=>by rw [← ei,← hbi];exact in_q i (hi.wide (by decide)) p q w)
 have Qi:Hid (∀ u w,InfoQ w u i→Calls Tryz.prog 39 #[u,ptV p q] w fun e w'=>e = .returned (.bool bi)∧Below w.heap.size w w'):=Lh (fun u w hu=>by rw [← hbi];exact rhas_q i (hi.wide (by decide)) p q u w hu)
 have Si:Hid (∀ u w,InfoQ w u i→Calls Tryz.prog 35 #[.agg Pi,u] w fun e w'=>e = .returned (.bool true)∧Below w.heap.size w w'):=Lh (fun u w hu=>by rw [← ei];exact same_q i u w hu)
 clear hbi
 obtain ⟨bg,hbg⟩:∃ z,hasQ g p q=z:=⟨_,rfl⟩
 have Ng:Hid (∀ w,Calls Tryz.prog 38 #[.agg Pg,ptV p q] w fun e w'=>e = .returned (.bool bg)∧Below w.heap.size w w'):=Lh (fun w=>by rw [← eg,← hbg];exact in_q g (hg0.wide (by decide)) p q w)
 have Qg:Hid (∀ u w,InfoQ w u g→Calls Tryz.prog 39 #[u,ptV p q] w fun e w'=>e = .returned (.bool bg)∧Below w.heap.size w w'):=Lh (fun u w hu=>by rw [← hbg];exact rhas_q g (hg0.wide (by decide)) p q u w hu)
 have Sg:Hid (∀ u w,InfoQ w u g→Calls Tryz.prog 35 #[.agg Pg,u] w fun e w'=>e = .returned (.bool true)∧Below w.heap.size w w'):=Lh (fun u w hu=>by rw [← eg];exact same_q g u w hu)
 clear hbg
 obtain ⟨bm,hbm⟩:∃ z,hasQ m p q=z:=⟨_,rfl⟩
 have Nm:Hid (∀ w,Calls Tryz.prog 38 #[.agg Pm,ptV p q] w fun e w'=>e = .returned (.bool bm)∧Below w.heap.size w w'):=Lh (fun w=>by rw [← em,← hbm];exact in_q m (hm) p q w)
 have Qm:Hid (∀ u w,InfoQ w u m→Calls Tryz.prog 39 #[u,ptV p q] w fun e w'=>e = .returned (.bool bm)∧Below w.heap.size w w'):=Lh (fun u w hu=>by rw [← hbm];exact rhas_q m (hm) p q u w hu)
 have Sm:Hid (∀ u w,InfoQ w u m→Calls Tryz.prog 35 #[.agg Pm,u] w fun e w'=>e = .returned (.bool true)∧Below w.heap.size w w'):=Lh (fun u w hu=>by rw [← em];exact same_q m u w hu)
 clear hbm
 obtain ⟨bn,hbn⟩:∃ z,hasQ n p q=z:=⟨_,rfl⟩
 have Nn:Hid (∀ w,Calls Tryz.prog 38 #[.agg Pn,ptV p q] w fun e w'=>e = .returned (.bool bn)∧Below w.heap.size w w'):=Lh (fun w=>by rw [← en,← hbn];exact in_q n (hn) p q w)
 have Qn:Hid (∀ u w,InfoQ w u n→Calls Tryz.prog 39 #[u,ptV p q] w fun e w'=>e = .returned (.bool bn)∧Below w.heap.size w w'):=Lh (fun u w hu=>by rw [← hbn];exact rhas_q n (hn) p q u w hu)
 have Sn:Hid (∀ u w,InfoQ w u n→Calls Tryz.prog 35 #[.agg Pn,u] w fun e w'=>e = .returned (.bool true)∧Below w.heap.size w w'):=Lh (fun u w hu=>by rw [← en];exact same_q n u w hu)
 clear hbn
 have O1:Hid (∀ w,Calls Tryz.prog 31 #[elC x y a b d] w fun e w'=>e = .returned (.tuple #[.agg Pi,.int .i64 er1])∧Below w.heap.size w w'):=Lh (fun w=>by have:=infoOf_c ⟨x,y,a,b,d⟩ w;rw [h1] at this;rw [← ei];exact this)
 have O2:Hid (∀ w,Calls Tryz.prog 31 #[elC x' y' a' b' d'] w fun e w'=>e = .returned (.tuple #[.agg Pj,.int .i64 er2])∧Below w.heap.size w w'):=Lh (fun w=>by have:=infoOf_c ⟨x',y',a',b',d'⟩ w;rw [h2] at this;rw [← ej];exact this)
 have O3:Hid (∀ w,Calls Tryz.prog 33 #[stC sa sb sc sd sl sh] w fun e w'=>e = .returned (.tuple #[.agg Pg,.int .i64 er3])∧Below w.heap.size w w'):=Lh (fun w=>by have:=ofStrip_c ⟨sa,sb,sc,sd,sl,sh⟩ w;rw [h3] at this;rw [← eg];exact this)
 have M1:Hid (∀ w,Calls Tryz.prog 40 #[.agg Pi,.agg Pj,.int .i64 wt] w fun e w'=>e = .returned (.tuple #[.agg Pm,.int .i64 er4])∧Below w.heap.size w w'):=Lh (fun w=>by rw [← ei,← ej,← em];exact mix_v i j m er4 hi hj wt h4 w)
 have M2:Hid (∀ w,Calls Tryz.prog 40 #[.agg Pi,.agg Pg,.int .i64 wt] w fun e w'=>e = .returned (.tuple #[.agg Pn,.int .i64 er5])∧Below w.heap.size w w'):=Lh (fun w=>by rw [← ei,← eg,← en];exact mix_v i g n er5 hi hg0 wt h5 w)
 obtain ⟨sm,hsm⟩:∃ z,St.may ⟨sa,sb,sc,sd,sl,sh⟩=z:=⟨_,rfl⟩
 have HSM:=Lh hsm
 have H1:=Lh h1
 have H2:=Lh h2
 have H3:=Lh h3
 have H4:=Lh h4
 have H5:=Lh h5
 have I1:=Lh hi
 have J1:=Lh hj
 have G1:=Lh hg0
 clear h1 h2 h3 h4 h5 hi hj hg0 hm hn ei ej eg em en hsm
 go_enter Tryz.func6,Tryz.ntmps6
 go_wp2_with fail
 obtain ⟨u0,hu0⟩:∃ u,u=((((w).alloc (Obj.cells #[.int .i64 x,.int .i64 y,.int .i64 a,.int .i64 b,.int .i64 d] 27)).alloc (Obj.cells #[.int .i64 x',.int .i64 y',.int .i64 a',.int .i64 b',.int .i64 d'] 27)).alloc (Obj.cells #[.int .i64 sa,.int .i64 sb,.int .i64 sc,.int .i64 sd,.int .i64 sl,.int .i64 sh] 39)).alloc (Obj.cells #[.int .i64 p,.int .i64 q] 23):=⟨_,rfl⟩
 rw [← hu0]
 have HB:Hid (Below w.heap.size w u0):=by rw [hu0];show Below w.heap.size w _;exact below_byR
 have X0:Hid (Blk u0 (w.heap.size) #[.int .i64 x,.int .i64 y,.int .i64 a,.int .i64 b,.int .i64 d] 27):=by rw [hu0];exact (((Blk.new' _ _ _ (by simp)).alloc _).alloc _).alloc _
 have X1:Hid (Blk u0 (w.heap.size+1) #[.int .i64 x',.int .i64 y',.int .i64 a',.int .i64 b',.int .i64 d'] 27):=by rw [hu0];exact ((Blk.new' _ _ _ (by simp)).alloc _).alloc _
 have X2:Hid (Blk u0 (w.heap.size+1+1) #[.int .i64 sa,.int .i64 sb,.int .i64 sc,.int .i64 sd,.int .i64 sl,.int .i64 sh] 39):=by rw [hu0];exact (Blk.new' _ _ _ (by simp)).alloc _
 have X3:Hid (Blk u0 (w.heap.size+1+1+1) #[.int .i64 p,.int .i64 q] 23):=by rw [hu0];exact Blk.new' _ _ _ (by simp)
 clear hu0
 refine Calls.mono (O1.out _) ?_
 rintro e x1 ⟨rfl,hb⟩
 replace X0:=Kp X0 hb
 replace X1:=Kp X1 hb
 replace X2:=Kp X2 hb
 replace X3:=Kp X3 hb
 replace HB:=Tp HB hb
 clear hb
 have pt:=(Blk.new x1 (blk [WI.of 0,WI.of 0,WI.of 0,WI.of 0,WI.of 0,WI.of 0,WI.of 0]) 60).put? 0 Pi (by rw [pzi];simp) pni
 go_upto_region 2 with fail
 clear pt
 obtain ⟨u2,hu⟩:∃ u,u=(x1.alloc (Obj.cells (blk [WI.of 0,WI.of 0,WI.of 0,WI.of 0,WI.of 0,WI.of 0,WI.of 0]) 60)).putRow x1.heap.size 0 Pi:=⟨_,rfl⟩
 rw [← hu]
 obtain ⟨gAI,hg⟩:∃ g,x1.heap.size=g:=⟨_,rfl⟩
 have hb:Below x1.heap.size x1 u2:=by rw [hu];exact Below_putRow ((Below.refl _ _).alloc (Nat.le_refl _) _) (Nat.le_refl _) _ _
 replace X0:=Kp X0 hb
 replace X1:=Kp X1 hb
 replace X2:=Kp X2 hb
 replace X3:=Kp X3 hb
 replace HB:=Tp HB hb
 clear hb
 have AI:Hid (Blk u2 gAI Pi 60):=by rw [hu,← hg];exact (Blk.new _ _ _).over (d:=Pi) (by rw [pzi];simp)
 rw [hg]
 clear hu hg
 obtain ⟨qX0a,qX0b,qX0c,qX0d,qX0e⟩:=cl5 X0
 have rl_X0:=X0.out.lt
 go_wp2_with fail
 clear qX0a qX0b qX0c qX0d qX0e rl_X0
 refine Calls.mono (rof_v H1 _) ?_
 rintro e x3 ⟨⟨v,rfl,hq⟩,hb⟩
 obtain ⟨Di,rfl,dzi,dni⟩:=hq.agg
 have Ci:=Lh hq
 clear hq
 replace X0:=Kp X0 hb
 replace X1:=Kp X1 hb
 replace X2:=Kp X2 hb
 replace X3:=Kp X3 hb
 replace AI:=Kp AI hb
 replace HB:=Tp HB hb
 clear hb
 have pt:=(Blk.new x3 (#[.bool false,.bool false,.slice none 0 0,.bool false,.bool false,.slice none 0 0,.bool false,.bool false,.slice none 0 0,.bool false,.bool false,.slice none 0 0,.bool false,.bool false,.slice none 0 0,.bool false,.bool false,.slice none 0 0,.bool false,.bool false,.slice none 0 0]) 67).put? 0 Di (by rw [dzi];simp) dni
 go_upto_region 3 with fail
 clear pt
 obtain ⟨u4,hu⟩:∃ u,u=(x3.alloc (Obj.cells (#[.bool false,.bool false,.slice none 0 0,.bool false,.bool false,.slice none 0 0,.bool false,.bool false,.slice none 0 0,.bool false,.bool false,.slice none 0 0,.bool false,.bool false,.slice none 0 0,.bool false,.bool false,.slice none 0 0,.bool false,.bool false,.slice none 0 0]) 67)).putRow x3.heap.size 0 Di:=⟨_,rfl⟩
 rw [← hu]
 obtain ⟨gBI,hg⟩:∃ g,x3.heap.size=g:=⟨_,rfl⟩
 have hb:Below x3.heap.size x3 u4:=by rw [hu];exact Below_putRow ((Below.refl _ _).alloc (Nat.le_refl _) _) (Nat.le_refl _) _ _
 replace X0:=Kp X0 hb
 replace X1:=Kp X1 hb
 replace X2:=Kp X2 hb
 replace X3:=Kp X3 hb
 replace AI:=Kp AI hb
 replace Ci:=Lh (Ci.out.below hb)
 replace HB:=Tp HB hb
 clear hb
 have BI:Hid (Blk u4 gBI Di 67):=by rw [hu,← hg];exact (Blk.new _ _ _).over (d:=Di) (by rw [dzi];simp)
 rw [hg]
 clear hu hg
 obtain ⟨qX2a,qX2b,qX2c,qX2d,qX2e,qX2f⟩:=cl6 X2
 have rl_X2:=X2.out.lt
 go_wp2_with fail
 clear qX2a qX2b qX2c qX2d qX2e qX2f rl_X2
 refine Calls.mono (O3.out _) ?_
 rintro e x5 ⟨rfl,hb⟩
 replace X0:=Kp X0 hb
 replace X1:=Kp X1 hb
 replace X2:=Kp X2 hb
 replace X3:=Kp X3 hb
 replace AI:=Kp AI hb
 replace BI:=Kp BI hb
 replace Ci:=Lh (Ci.out.below hb)
 replace HB:=Tp HB hb
 clear hb
 have pt:=(Blk.new x5 (blk [WI.of 0,WI.of 0,WI.of 0,WI.of 0,WI.of 0,WI.of 0,WI.of 0]) 60).put? 0 Pg (by rw [pzg];simp) png
 go_upto_region 4 with fail
 clear pt
 obtain ⟨u6,hu⟩:∃ u,u=(x5.alloc (Obj.cells (blk [WI.of 0,WI.of 0,WI.of 0,WI.of 0,WI.of 0,WI.of 0,WI.of 0]) 60)).putRow x5.heap.size 0 Pg:=⟨_,rfl⟩
 rw [← hu]
 obtain ⟨gAG,hg⟩:∃ g,x5.heap.size=g:=⟨_,rfl⟩
 have hb:Below x5.heap.size x5 u6:=by rw [hu];exact Below_putRow ((Below.refl _ _).alloc (Nat.le_refl _) _) (Nat.le_refl _) _ _
 replace X0:=Kp X0 hb
 replace X1:=Kp X1 hb
 replace X2:=Kp X2 hb
 replace X3:=Kp X3 hb
 replace AI:=Kp AI hb
 replace BI:=Kp BI hb
 replace Ci:=Lh (Ci.out.below hb)
 replace HB:=Tp HB hb
 clear hb
 have AG:Hid (Blk u6 gAG Pg 60):=by rw [hu,← hg];exact (Blk.new _ _ _).over (d:=Pg) (by rw [pzg];simp)
 rw [hg]
 clear hu hg
 obtain ⟨qX2a,qX2b,qX2c,qX2d,qX2e,qX2f⟩:=cl6 X2
 have rl_X2:=X2.out.lt
 go_wp2_with fail
 clear qX2a qX2b qX2c qX2d qX2e qX2f rl_X2
 refine Calls.mono (rofst_v H3 _) ?_
 rintro e x7 ⟨⟨v,rfl,hq⟩,hb⟩
 obtain ⟨Dg,rfl,dzg,dng⟩:=hq.agg
 have Cg:=Lh hq
 clear hq
 replace X0:=Kp X0 hb
 replace X1:=Kp X1 hb
 replace X2:=Kp X2 hb
 replace X3:=Kp X3 hb
 replace AI:=Kp AI hb
 replace BI:=Kp BI hb
 replace AG:=Kp AG hb
 replace Ci:=Lh (Ci.out.below hb)
 replace HB:=Tp HB hb
 clear hb
 have pt:=(Blk.new x7 (#[.bool false,.bool false,.slice none 0 0,.bool false,.bool false,.slice none 0 0,.bool false,.bool false,.slice none 0 0,.bool false,.bool false,.slice none 0 0,.bool false,.bool false,.slice none 0 0,.bool false,.bool false,.slice none 0 0,.bool false,.bool false,.slice none 0 0]) 67).put? 0 Dg (by rw [dzg];simp) dng
 go_upto_region 5 with fail
 clear pt
 obtain ⟨u8,hu⟩:∃ u,u=(x7.alloc (Obj.cells (#[.bool false,.bool false,.slice none 0 0,.bool false,.bool false,.slice none 0 0,.bool false,.bool false,.slice none 0 0,.bool false,.bool false,.slice none 0 0,.bool false,.bool false,.slice none 0 0,.bool false,.bool false,.slice none 0 0,.bool false,.bool false,.slice none 0 0]) 67)).putRow x7.heap.size 0 Dg:=⟨_,rfl⟩
 rw [← hu]
 obtain ⟨gBG,hg⟩:∃ g,x7.heap.size=g:=⟨_,rfl⟩
 have hb:Below x7.heap.size x7 u8:=by rw [hu];exact Below_putRow ((Below.refl _ _).alloc (Nat.le_refl _) _) (Nat.le_refl _) _ _
 replace X0:=Kp X0 hb
 replace X1:=Kp X1 hb
 replace X2:=Kp X2 hb
 replace X3:=Kp X3 hb
 replace AI:=Kp AI hb
 replace BI:=Kp BI hb
 replace AG:=Kp AG hb
 replace Ci:=Lh (Ci.out.below hb)
 replace Cg:=Lh (Cg.out.below hb)
 replace HB:=Tp HB hb
 clear hb
 have BG:Hid (Blk u8 gBG Dg 67):=by rw [hu,← hg];exact (Blk.new _ _ _).over (d:=Dg) (by rw [dzg];simp)
 rw [hg]
 clear hu hg
 have d_er1:(er1==er1)=true:=by simp
 have f_er1:(er1 != er1)=false:=by simp
 have d_er3:(er3==er3)=true:=by simp
 have f_er3:(er3 != er3)=false:=by simp
 have d_sm:(sm==sm)=true:=by simp
 have f_sm:(sm != sm)=false:=by simp
 have d_bi:(bi==bi)=true:=by simp
 have f_bi:(bi != bi)=false:=by simp
 have d_bg:(bg==bg)=true:=by simp
 have f_bg:(bg != bg)=false:=by simp
 have ri_AI:=@inh_row _ _ _ _ _ (AI.out.row?_all 126 pzi)
 have ri_BI:=@inh_row _ _ _ _ _ (BI.out.row?_all 21 dzi)
 have ri_AG:=@inh_row _ _ _ _ _ (AG.out.row?_all 126 pzg)
 have ri_BG:=@inh_row _ _ _ _ _ (BG.out.row?_all 21 dzg)
 obtain ⟨qX2a,qX2b,qX2c,qX2d,qX2e,qX2f⟩:=ic6 X2
 obtain ⟨qX3a,qX3b⟩:=ic2 X3
 have HL:Hid (Below u8.heap.size u8 u8.drew):=(Below.refl _ _).drew
 refine wp_region_ghost' 45 (fun _=>none) (fun _=>[]) (by kernel_rfl) (by kernel_rfl) ?_;apply Ea;apply Ea;apply Ea;apply Ea;apply Ea;apply Ea;apply Ea;apply Ea;apply Ea;apply Ea;apply Ea;apply Ea;apply Ea;apply Ea;apply Ea;apply Ea;apply Ea;apply Ea;apply Ea;apply Ea;apply Ea;apply Ea;apply Ea;apply Ea;apply Ea;apply Ea;apply Ea;apply Ea;apply Ea;apply Ea;apply Ea;apply Ea;apply Ea;apply Ea;apply Ea;apply Ea;apply Ea;apply Ea;apply Ea;apply Ea;apply Ea;apply Ea;apply Ea;apply Ea;apply Ea;refine ⟨[],fun gg NN hN=>?_⟩;simp only [List.append_eq,List.cons_append,List.nil_append,List.take_succ_cons,List.take_zero,List.drop_succ_cons,List.drop_zero];(repeat (refine lexH_quiet rfl ?_;go_big_quiet_step (first|exact rfl|((first|(rename_i px;go_at_call 35;with_reducible exact calls_inh (Si.out _ _ (Ci.out.below (inh_low HL.out px))))|(rename_i px;go_at_call 35;with_reducible exact calls_inh (Sg.out _ _ (Cg.out.below (inh_low HL.out px))))|(go_at_call 38;with_reducible exact calls_inh (Ni.out _))|(go_at_call 38;with_reducible exact calls_inh (Ng.out _))|(rename_i px;go_at_call 39;with_reducible exact calls_inh (Qi.out _ _ (Ci.out.below (inh_low HL.out px))))|(rename_i px;go_at_call 39;with_reducible exact calls_inh (Qg.out _ _ (Cg.out.below (inh_low HL.out px))))|(go_at_call 36;exact calls_inh (mayStrip_v _ _ _ _ _ _ _ HSM.out _))|(go_at_call 37;exact calls_inh (rmaystrip_v _ _ _ _ _ _ _ HSM.out _)))));refine wpQuiet_nil ⟨?hd,?_⟩;(case hd=>exact rfl)))
 refine lexH_nil ?_
 intro x9 hb' hh
 have hb:Below u8.heap.size u8 x9:=hb'
 clear hb' HL
 clear d_er1 f_er1 d_er3 f_er3 d_sm f_sm d_bi f_bi d_bg f_bg ri_AI ri_BI ri_AG ri_BG qX2a qX2b qX2c qX2d qX2e qX2f qX3a qX3b
 replace X0:=Kp X0 hb
 replace X1:=Kp X1 hb
 replace X2:=Kp X2 hb
 replace X3:=Kp X3 hb
 replace AI:=Kp AI hb
 replace BI:=Kp BI hb
 replace AG:=Kp AG hb
 replace BG:=Kp BG hb
 replace Ci:=Lh (Ci.out.below hb)
 replace Cg:=Lh (Cg.out.below hb)
 replace HB:=Tp HB hb
 clear hb
 refine wpList_nil ?_
 clear hh
 obtain ⟨qX1a,qX1b,qX1c,qX1d,qX1e⟩:=cl5 X1
 have rl_X1:=X1.out.lt
 go_wp2_with fail
 clear qX1a qX1b qX1c qX1d qX1e rl_X1
 refine Calls.mono (O2.out _) ?_
 rintro e x10 ⟨rfl,hb⟩
 replace X0:=Kp X0 hb
 replace X1:=Kp X1 hb
 replace X2:=Kp X2 hb
 replace X3:=Kp X3 hb
 replace AI:=Kp AI hb
 replace BI:=Kp BI hb
 replace AG:=Kp AG hb
 replace BG:=Kp BG hb
 replace Ci:=Lh (Ci.out.below hb)
 replace Cg:=Lh (Cg.out.below hb)
 replace HB:=Tp HB hb
 clear hb
 have pt:=(Blk.new x10 (blk [WI.of 0,WI.of 0,WI.of 0,WI.of 0,WI.of 0,WI.of 0,WI.of 0]) 60).put? 0 Pj (by rw [pzj];simp) pnj
 go_upto_region 8 with fail
 clear pt
 obtain ⟨u11,hu⟩:∃ u,u=(x10.alloc (Obj.cells (blk [WI.of 0,WI.of 0,WI.of 0,WI.of 0,WI.of 0,WI.of 0,WI.of 0]) 60)).putRow x10.heap.size 0 Pj:=⟨_,rfl⟩
 rw [← hu]
 obtain ⟨gAJ,hg⟩:∃ g,x10.heap.size=g:=⟨_,rfl⟩
 have hb:Below x10.heap.size x10 u11:=by rw [hu];exact Below_putRow ((Below.refl _ _).alloc (Nat.le_refl _) _) (Nat.le_refl _) _ _
 replace X0:=Kp X0 hb
 replace X1:=Kp X1 hb
 replace X2:=Kp X2 hb
 replace X3:=Kp X3 hb
 replace AI:=Kp AI hb
 replace BI:=Kp BI hb
 replace AG:=Kp AG hb
 replace BG:=Kp BG hb
 replace Ci:=Lh (Ci.out.below hb)
 replace Cg:=Lh (Cg.out.below hb)
 replace HB:=Tp HB hb
 clear hb
 have AJ:Hid (Blk u11 gAJ Pj 60):=by rw [hu,← hg];exact (Blk.new _ _ _).over (d:=Pj) (by rw [pzj];simp)
 rw [hg]
 clear hu hg
 obtain ⟨qX1a,qX1b,qX1c,qX1d,qX1e⟩:=cl5 X1
 have rl_X1:=X1.out.lt
 go_wp2_with fail
 clear qX1a qX1b qX1c qX1d qX1e rl_X1
 refine Calls.mono (rof_v H2 _) ?_
 rintro e x12 ⟨⟨v,rfl,hq⟩,hb⟩
 obtain ⟨Dj,rfl,dzj,dnj⟩:=hq.agg
 have Cj:=Lh hq
 clear hq
 replace X0:=Kp X0 hb
 replace X1:=Kp X1 hb
 replace X2:=Kp X2 hb
 replace X3:=Kp X3 hb
 replace AI:=Kp AI hb
 replace BI:=Kp BI hb
 replace AG:=Kp AG hb
 replace BG:=Kp BG hb
 replace AJ:=Kp AJ hb
 replace Ci:=Lh (Ci.out.below hb)
 replace Cg:=Lh (Cg.out.below hb)
 replace HB:=Tp HB hb
 clear hb
 have pt:=(Blk.new x12 (#[.bool false,.bool false,.slice none 0 0,.bool false,.bool false,.slice none 0 0,.bool false,.bool false,.slice none 0 0,.bool false,.bool false,.slice none 0 0,.bool false,.bool false,.slice none 0 0,.bool false,.bool false,.slice none 0 0,.bool false,.bool false,.slice none 0 0]) 67).put? 0 Dj (by rw [dzj];simp) dnj
 go_upto_region 9 with fail
 clear pt
 obtain ⟨u13,hu⟩:∃ u,u=(x12.alloc (Obj.cells (#[.bool false,.bool false,.slice none 0 0,.bool false,.bool false,.slice none 0 0,.bool false,.bool false,.slice none 0 0,.bool false,.bool false,.slice none 0 0,.bool false,.bool false,.slice none 0 0,.bool false,.bool false,.slice none 0 0,.bool false,.bool false,.slice none 0 0]) 67)).putRow x12.heap.size 0 Dj:=⟨_,rfl⟩
 rw [← hu]
 obtain ⟨gBJ,hg⟩:∃ g,x12.heap.size=g:=⟨_,rfl⟩
 have hb:Below x12.heap.size x12 u13:=by rw [hu];exact Below_putRow ((Below.refl _ _).alloc (Nat.le_refl _) _) (Nat.le_refl _) _ _
 replace X0:=Kp X0 hb
 replace X1:=Kp X1 hb
 replace X2:=Kp X2 hb
 replace X3:=Kp X3 hb
 replace AI:=Kp AI hb
 replace BI:=Kp BI hb
 replace AG:=Kp AG hb
 replace BG:=Kp BG hb
 replace AJ:=Kp AJ hb
 replace Ci:=Lh (Ci.out.below hb)
 replace Cg:=Lh (Cg.out.below hb)
 replace Cj:=Lh (Cj.out.below hb)
 replace HB:=Tp HB hb
 clear hb
 have BJ:Hid (Blk u13 gBJ Dj 67):=by rw [hu,← hg];exact (Blk.new _ _ _).over (d:=Dj) (by rw [dzj];simp)
 rw [hg]
 clear hu hg
 have rw_AI:=AI.out.row?_all 126 pzi
 have rl_AI:=AI.out.lt
 have rw_AJ:=AJ.out.row?_all 126 pzj
 have rl_AJ:=AJ.out.lt
 go_wp2_with fail
 clear rw_AI rl_AI rw_AJ rl_AJ
 refine Calls.mono (M1.out _) ?_
 rintro e x14 ⟨rfl,hb⟩
 replace X0:=Kp X0 hb
 replace X1:=Kp X1 hb
 replace X2:=Kp X2 hb
 replace X3:=Kp X3 hb
 replace AI:=Kp AI hb
 replace BI:=Kp BI hb
 replace AG:=Kp AG hb
 replace BG:=Kp BG hb
 replace AJ:=Kp AJ hb
 replace BJ:=Kp BJ hb
 replace Ci:=Lh (Ci.out.below hb)
 replace Cg:=Lh (Cg.out.below hb)
 replace Cj:=Lh (Cj.out.below hb)
 replace HB:=Tp HB hb
 clear hb
 have pt:=(Blk.new x14 (blk [WI.of 0,WI.of 0,WI.of 0,WI.of 0,WI.of 0,WI.of 0,WI.of 0]) 60).put? 0 Pm (by rw [pzm];simp) pnm
 go_upto_region 10 with fail
 clear pt
 obtain ⟨u15,hu⟩:∃ u,u=(x14.alloc (Obj.cells (blk [WI.of 0,WI.of 0,WI.of 0,WI.of 0,WI.of 0,WI.of 0,WI.of 0]) 60)).putRow x14.heap.size 0 Pm:=⟨_,rfl⟩
 rw [← hu]
 obtain ⟨gAM,hg⟩:∃ g,x14.heap.size=g:=⟨_,rfl⟩
 have hb:Below x14.heap.size x14 u15:=by rw [hu];exact Below_putRow ((Below.refl _ _).alloc (Nat.le_refl _) _) (Nat.le_refl _) _ _
 replace X0:=Kp X0 hb
 replace X1:=Kp X1 hb
 replace X2:=Kp X2 hb
 replace X3:=Kp X3 hb
 replace AI:=Kp AI hb
 replace BI:=Kp BI hb
 replace AG:=Kp AG hb
 replace BG:=Kp BG hb
 replace AJ:=Kp AJ hb
 replace BJ:=Kp BJ hb
 replace Ci:=Lh (Ci.out.below hb)
 replace Cg:=Lh (Cg.out.below hb)
 replace Cj:=Lh (Cj.out.below hb)
 replace HB:=Tp HB hb
 clear hb
 have AM:Hid (Blk u15 gAM Pm 60):=by rw [hu,← hg];exact (Blk.new _ _ _).over (d:=Pm) (by rw [pzm];simp)
 rw [hg]
 clear hu hg
 have rw_BI:=BI.out.row?_all 21 dzi
 have rl_BI:=BI.out.lt
 have rw_BJ:=BJ.out.row?_all 21 dzj
 have rl_BJ:=BJ.out.lt
 go_wp2_with fail
 clear rw_BI rl_BI rw_BJ rl_BJ
 refine Calls.mono (rmix_v H4 I1 J1 Ci.out Cj.out) ?_
 rintro e x16 ⟨⟨v,rfl,hq⟩,hb⟩
 obtain ⟨Dm,rfl,dzm,dnm⟩:=hq.agg
 have Cm:=Lh hq
 clear hq
 replace X0:=Kp X0 hb
 replace X1:=Kp X1 hb
 replace X2:=Kp X2 hb
 replace X3:=Kp X3 hb
 replace AI:=Kp AI hb
 replace BI:=Kp BI hb
 replace AG:=Kp AG hb
 replace BG:=Kp BG hb
 replace AJ:=Kp AJ hb
 replace BJ:=Kp BJ hb
 replace AM:=Kp AM hb
 replace Ci:=Lh (Ci.out.below hb)
 replace Cg:=Lh (Cg.out.below hb)
 replace Cj:=Lh (Cj.out.below hb)
 replace HB:=Tp HB hb
 clear hb
 have pt:=(Blk.new x16 (#[.bool false,.bool false,.slice none 0 0,.bool false,.bool false,.slice none 0 0,.bool false,.bool false,.slice none 0 0,.bool false,.bool false,.slice none 0 0,.bool false,.bool false,.slice none 0 0,.bool false,.bool false,.slice none 0 0,.bool false,.bool false,.slice none 0 0]) 67).put? 0 Dm (by rw [dzm];simp) dnm
 go_upto_region 11 with fail
 clear pt
 obtain ⟨u17,hu⟩:∃ u,u=(x16.alloc (Obj.cells (#[.bool false,.bool false,.slice none 0 0,.bool false,.bool false,.slice none 0 0,.bool false,.bool false,.slice none 0 0,.bool false,.bool false,.slice none 0 0,.bool false,.bool false,.slice none 0 0,.bool false,.bool false,.slice none 0 0,.bool false,.bool false,.slice none 0 0]) 67)).putRow x16.heap.size 0 Dm:=⟨_,rfl⟩
 rw [← hu]
 obtain ⟨gBM,hg⟩:∃ g,x16.heap.size=g:=⟨_,rfl⟩
 have hb:Below x16.heap.size x16 u17:=by rw [hu];exact Below_putRow ((Below.refl _ _).alloc (Nat.le_refl _) _) (Nat.le_refl _) _ _
 replace X0:=Kp X0 hb
 replace X1:=Kp X1 hb
 replace X2:=Kp X2 hb
 replace X3:=Kp X3 hb
 replace AI:=Kp AI hb
 replace BI:=Kp BI hb
 replace AG:=Kp AG hb
 replace BG:=Kp BG hb
 replace AJ:=Kp AJ hb
 replace BJ:=Kp BJ hb
 replace AM:=Kp AM hb
 replace Ci:=Lh (Ci.out.below hb)
 replace Cg:=Lh (Cg.out.below hb)
 replace Cj:=Lh (Cj.out.below hb)
 replace Cm:=Lh (Cm.out.below hb)
 replace HB:=Tp HB hb
 clear hb
 have BM:Hid (Blk u17 gBM Dm 67):=by rw [hu,← hg];exact (Blk.new _ _ _).over (d:=Dm) (by rw [dzm];simp)
 rw [hg]
 clear hu hg
 have rw_AI:=AI.out.row?_all 126 pzi
 have rl_AI:=AI.out.lt
 have rw_AG:=AG.out.row?_all 126 pzg
 have rl_AG:=AG.out.lt
 go_wp2_with fail
 clear rw_AI rl_AI rw_AG rl_AG
 refine Calls.mono (M2.out _) ?_
 rintro e x18 ⟨rfl,hb⟩
 replace X0:=Kp X0 hb
 replace X1:=Kp X1 hb
 replace X2:=Kp X2 hb
 replace X3:=Kp X3 hb
 replace AI:=Kp AI hb
 replace BI:=Kp BI hb
 replace AG:=Kp AG hb
 replace BG:=Kp BG hb
 replace AJ:=Kp AJ hb
 replace BJ:=Kp BJ hb
 replace AM:=Kp AM hb
 replace BM:=Kp BM hb
 replace Ci:=Lh (Ci.out.below hb)
 replace Cg:=Lh (Cg.out.below hb)
 replace Cj:=Lh (Cj.out.below hb)
 replace Cm:=Lh (Cm.out.below hb)
 replace HB:=Tp HB hb
 clear hb
 have pt:=(Blk.new x18 (blk [WI.of 0,WI.of 0,WI.of 0,WI.of 0,WI.of 0,WI.of 0,WI.of 0]) 60).put? 0 Pn (by rw [pzn];simp) pnn
 go_upto_region 12 with fail
 clear pt
 obtain ⟨u19,hu⟩:∃ u,u=(x18.alloc (Obj.cells (blk [WI.of 0,WI.of 0,WI.of 0,WI.of 0,WI.of 0,WI.of 0,WI.of 0]) 60)).putRow x18.heap.size 0 Pn:=⟨_,rfl⟩
 rw [← hu]
 obtain ⟨gAN,hg⟩:∃ g,x18.heap.size=g:=⟨_,rfl⟩
 have hb:Below x18.heap.size x18 u19:=by rw [hu];exact Below_putRow ((Below.refl _ _).alloc (Nat.le_refl _) _) (Nat.le_refl _) _ _
 replace X0:=Kp X0 hb
 replace X1:=Kp X1 hb
 replace X2:=Kp X2 hb
 replace X3:=Kp X3 hb
 replace AI:=Kp AI hb
 replace BI:=Kp BI hb
 replace AG:=Kp AG hb
 replace BG:=Kp BG hb
 replace AJ:=Kp AJ hb
 replace BJ:=Kp BJ hb
 replace AM:=Kp AM hb
 replace BM:=Kp BM hb
 replace Ci:=Lh (Ci.out.below hb)
 replace Cg:=Lh (Cg.out.below hb)
 replace Cj:=Lh (Cj.out.below hb)
 replace Cm:=Lh (Cm.out.below hb)
 replace HB:=Tp HB hb
 clear hb
 have AN:Hid (Blk u19 gAN Pn 60):=by rw [hu,← hg];exact (Blk.new _ _ _).over (d:=Pn) (by rw [pzn];simp)
 rw [hg]
 clear hu hg
 have rw_BI:=BI.out.row?_all 21 dzi
 have rl_BI:=BI.out.lt
 have rw_BG:=BG.out.row?_all 21 dzg
 have rl_BG:=BG.out.lt
 go_wp2_with fail
 clear rw_BI rl_BI rw_BG rl_BG
 refine Calls.mono (rmix_v H5 I1 G1 Ci.out Cg.out) ?_
 rintro e x20 ⟨⟨v,rfl,hq⟩,hb⟩
 obtain ⟨Dn,rfl,dzn,dnn⟩:=hq.agg
 have Cn:=Lh hq
 clear hq
 replace X0:=Kp X0 hb
 replace X1:=Kp X1 hb
 replace X2:=Kp X2 hb
 replace X3:=Kp X3 hb
 replace AI:=Kp AI hb
 replace BI:=Kp BI hb
 replace AG:=Kp AG hb
 replace BG:=Kp BG hb
 replace AJ:=Kp AJ hb
 replace BJ:=Kp BJ hb
 replace AM:=Kp AM hb
 replace BM:=Kp BM hb
 replace AN:=Kp AN hb
 replace Ci:=Lh (Ci.out.below hb)
 replace Cg:=Lh (Cg.out.below hb)
 replace Cj:=Lh (Cj.out.below hb)
 replace Cm:=Lh (Cm.out.below hb)
 replace HB:=Tp HB hb
 clear hb
 have pt:=(Blk.new x20 (#[.bool false,.bool false,.slice none 0 0,.bool false,.bool false,.slice none 0 0,.bool false,.bool false,.slice none 0 0,.bool false,.bool false,.slice none 0 0,.bool false,.bool false,.slice none 0 0,.bool false,.bool false,.slice none 0 0,.bool false,.bool false,.slice none 0 0]) 67).put? 0 Dn (by rw [dzn];simp) dnn
 go_upto_region 13 with fail
 clear pt
 obtain ⟨u21,hu⟩:∃ u,u=(x20.alloc (Obj.cells (#[.bool false,.bool false,.slice none 0 0,.bool false,.bool false,.slice none 0 0,.bool false,.bool false,.slice none 0 0,.bool false,.bool false,.slice none 0 0,.bool false,.bool false,.slice none 0 0,.bool false,.bool false,.slice none 0 0,.bool false,.bool false,.slice none 0 0]) 67)).putRow x20.heap.size 0 Dn:=⟨_,rfl⟩
 rw [← hu]
 obtain ⟨gBN,hg⟩:∃ g,x20.heap.size=g:=⟨_,rfl⟩
 have hb:Below x20.heap.size x20 u21:=by rw [hu];exact Below_putRow ((Below.refl _ _).alloc (Nat.le_refl _) _) (Nat.le_refl _) _ _
 replace X0:=Kp X0 hb
 replace X1:=Kp X1 hb
 replace X2:=Kp X2 hb
 replace X3:=Kp X3 hb
 replace AI:=Kp AI hb
 replace BI:=Kp BI hb
 replace AG:=Kp AG hb
 replace BG:=Kp BG hb
 replace AJ:=Kp AJ hb
 replace BJ:=Kp BJ hb
 replace AM:=Kp AM hb
 replace BM:=Kp BM hb
 replace AN:=Kp AN hb
 replace Ci:=Lh (Ci.out.below hb)
 replace Cg:=Lh (Cg.out.below hb)
 replace Cj:=Lh (Cj.out.below hb)
 replace Cm:=Lh (Cm.out.below hb)
 replace Cn:=Lh (Cn.out.below hb)
 replace HB:=Tp HB hb
 clear hb
 have BN:Hid (Blk u21 gBN Dn 67):=by rw [hu,← hg];exact (Blk.new _ _ _).over (d:=Dn) (by rw [dzn];simp)
 rw [hg]
 clear hu hg
 have d_er4:(er4==er4)=true:=by simp
 have f_er4:(er4 != er4)=false:=by simp
 have d_er5:(er5==er5)=true:=by simp
 have f_er5:(er5 != er5)=false:=by simp
 have d_bm:(bm==bm)=true:=by simp
 have f_bm:(bm != bm)=false:=by simp
 have d_bn:(bn==bn)=true:=by simp
 have f_bn:(bn != bn)=false:=by simp
 have ri_AM:=@inh_row _ _ _ _ _ (AM.out.row?_all 126 pzm)
 have ri_BM:=@inh_row _ _ _ _ _ (BM.out.row?_all 21 dzm)
 have ri_AN:=@inh_row _ _ _ _ _ (AN.out.row?_all 126 pzn)
 have ri_BN:=@inh_row _ _ _ _ _ (BN.out.row?_all 21 dzn)
 obtain ⟨qX3a,qX3b⟩:=ic2 X3
 have HL:Hid (Below u21.heap.size u21 u21.drew):=(Below.refl _ _).drew
 refine wp_region_ghost' 40 (fun _=>none) (fun _=>[]) (by kernel_rfl) (by kernel_rfl) ?_;apply Ea;apply Ea;apply Ea;apply Ea;apply Ea;apply Ea;apply Ea;apply Ea;apply Ea;apply Ea;apply Ea;apply Ea;apply Ea;apply Ea;apply Ea;apply Ea;apply Ea;apply Ea;apply Ea;apply Ea;apply Ea;apply Ea;apply Ea;apply Ea;apply Ea;apply Ea;apply Ea;apply Ea;apply Ea;apply Ea;apply Ea;apply Ea;apply Ea;apply Ea;apply Ea;apply Ea;apply Ea;apply Ea;apply Ea;apply Ea;refine ⟨[],fun gg NN hN=>?_⟩;simp only [List.append_eq,List.cons_append,List.nil_append,List.take_succ_cons,List.take_zero,List.drop_succ_cons,List.drop_zero];(repeat (refine lexH_quiet rfl ?_;go_big_quiet_step (first|exact rfl|((first|(rename_i px;go_at_call 35;with_reducible exact calls_inh (Sm.out _ _ (Cm.out.below (inh_low HL.out px))))|(rename_i px;go_at_call 35;with_reducible exact calls_inh (Sn.out _ _ (Cn.out.below (inh_low HL.out px))))|(go_at_call 38;with_reducible exact calls_inh (Nm.out _))|(go_at_call 38;with_reducible exact calls_inh (Nn.out _))|(rename_i px;go_at_call 39;with_reducible exact calls_inh (Qm.out _ _ (Cm.out.below (inh_low HL.out px))))|(rename_i px;go_at_call 39;with_reducible exact calls_inh (Qn.out _ _ (Cn.out.below (inh_low HL.out px))))|(go_at_call 42;exact calls_inh (awake6_c _)))));refine wpQuiet_nil ⟨?hd,?_⟩;(case hd=>exact rfl)))
 refine lexH_nil ?_
 intro x22 hb' hh
 have hb:Below u21.heap.size u21 x22:=hb'
 clear hb' HL
 clear d_er4 f_er4 d_er5 f_er5 d_bm f_bm d_bn f_bn ri_AM ri_BM ri_AN ri_BN qX3a qX3b
 replace X0:=Kp X0 hb
 replace X1:=Kp X1 hb
 replace X2:=Kp X2 hb
 replace X3:=Kp X3 hb
 replace AI:=Kp AI hb
 replace BI:=Kp BI hb
 replace AG:=Kp AG hb
 replace BG:=Kp BG hb
 replace AJ:=Kp AJ hb
 replace BJ:=Kp BJ hb
 replace AM:=Kp AM hb
 replace BM:=Kp BM hb
 replace AN:=Kp AN hb
 replace BN:=Kp BN hb
 replace Ci:=Lh (Ci.out.below hb)
 replace Cg:=Lh (Cg.out.below hb)
 replace Cj:=Lh (Cj.out.below hb)
 replace Cm:=Lh (Cm.out.below hb)
 replace Cn:=Lh (Cn.out.below hb)
 replace HB:=Tp HB hb
 clear hb
 refine wpList_nil ?_
 clear hh
 go_wp2_with fail
 go_ret
 exact ⟨rfl,HB.out⟩
end Go.Proofs.YtilginoibhfeiaaGreat
