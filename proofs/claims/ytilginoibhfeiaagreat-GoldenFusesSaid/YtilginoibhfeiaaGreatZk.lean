/- Laws. -/
import Derived.Test.YtilginoibhfeiaaGreatZ1
import Derived.Test.YtilginoibhfeiaaGreatY9
set_option maxRecDepth 100000
set_option maxHeartbeats 16000000
namespace Go.Proofs.YtilginoibhfeiaaGreat
open Go.RowKit
theorem zaskS_c (w0:World) (g gE gF:Nat) (x y a b d sa sb sc sd sl sh:Int) (s:GS) (k:Int) (w:World) (BE:Hid (Blk w0 gE #[.int .i64 x,.int .i64 y,.int .i64 a,.int .i64 b,.int .i64 d] 27)) (BF:Hid (Blk w0 gF #[.int .i64 sa,.int .i64 sb,.int .i64 sc,.int .i64 sd,.int .i64 sl,.int .i64 sh] 39)) (hl:s.asked.length≤7)
  (h:RZ w0 g (.pointer (some ⟨gE,0,none⟩)) (.pointer none) (.pointer (some ⟨gF,0,none⟩)) (cutE ⟨x,y,a,b,d⟩ ⟨sa,sb,sc,sd,sl,sh⟩) s w) :
  Calls Tryz.prog 181 #[.pointer (some ⟨g,0,none⟩),.int .i64 k] w fun e w'=>e = .returned (.agg #[.int .i64 (ovV (cutE ⟨x,y,a,b,d⟩ ⟨sa,sb,sc,sd,sl,sh⟩) k).1,.bool (ovV (cutE ⟨x,y,a,b,d⟩ ⟨sa,sb,sc,sd,sl,sh⟩) k).2])∧RZ w0 g (.pointer (some ⟨gE,0,none⟩)) (.pointer none) (.pointer (some ⟨gF,0,none⟩)) (cutE ⟨x,y,a,b,d⟩ ⟨sa,sb,sc,sd,sl,sh⟩) (gask (ovV (cutE ⟨x,y,a,b,d⟩ ⟨sa,sb,sc,sd,sl,sh⟩)) k s) w'∧Keeps 148 w w':=by
 obtain ⟨O,hO⟩:∃ O,O=cutE ⟨x,y,a,b,d⟩ ⟨sa,sb,sc,sd,sl,sh⟩:=⟨_,rfl⟩
 rw [← hO] at h ⊢
 obtain ⟨⟨ox,oy,oa,ob,od⟩,er,ho⟩:∃ o e,O k=(o,e):=⟨_,_,rfl⟩
 have CO:cutE ⟨x,y,a,b,d⟩ ⟨sa,sb,sc,sd,sl,sh⟩ k=(⟨ox,oy,oa,ob,od⟩,er):=by rw [← hO];exact ho
 replace CO:=Lh CO
 obtain ⟨tr,ht⟩:∃ t,El.tr ⟨ox,oy,oa,ob,od⟩=t:=⟨_,rfl⟩
 have HT:=Lh ht
 have EO:Hid (ovV O k=(tr,er==0)):=by show _=_;unfold ovV;rw [ho,ht]
 obtain ⟨hb,hg,v,hv,hown⟩:=h
 obtain ⟨em,hem⟩:∃ m,emptyB O s.asked=m:=⟨_,rfl⟩
 obtain ⟨nem,hnem⟩:∃ m,(em||er==3)=m:=⟨_,rfl⟩
 have EM:emptyB O (gask (ovV O) k s).asked=nem:=by rw [emptyB_ask,ho,hem];exact hnem
 obtain ⟨⟨px,py,pa,pb,pd⟩,hp⟩:∃ p,atZ O s=p:=⟨_,rfl⟩
 obtain ⟨sw,hsw⟩:∃ k,s.w=k:=⟨_,rfl⟩
 obtain ⟨sn,hsn⟩:∃ k,s.n=k:=⟨_,rfl⟩
 obtain ⟨so,hso⟩:∃ k,s.ok=k:=⟨_,rfl⟩
 have GA:better (ovV O) k s=((er==0)&&(!so||decide (tr<sn)||(tr==sn&&decide (k<sw)))):=by unfold better;rw [EO.out,hsw,hsn,hso]
 have Z0:Hid (better (ovV O) k s=false→∀ v,zcells (.pointer (some ⟨gE,0,none⟩)) (.pointer none) (.pointer (some ⟨gF,0,none⟩)) (emptyB O (gask (ovV O) k s).asked) v (gask (ovV O) k s) (atZ O (gask (ovV O) k s))=#[.slice none 0 0,.pointer (some ⟨gE,0,none⟩),.pointer none,.pointer (some ⟨gF,0,none⟩),.bool nem,v,.int .i64 sw,.int .i64 sn,.bool so,.int .i64 px,.int .i64 py,.int .i64 pa,.int .i64 pb,.int .i64 pd]):=by show _→_;intro h v;unfold zcells;rw [EM,atZ_ask,gask_w,gask_n,gask_ok,h,hp,hsw,hsn,hso];rfl
 have Z1:Hid (better (ovV O) k s=true→∀ v,zcells (.pointer (some ⟨gE,0,none⟩)) (.pointer none) (.pointer (some ⟨gF,0,none⟩)) (emptyB O (gask (ovV O) k s).asked) v (gask (ovV O) k s) (atZ O (gask (ovV O) k s))=#[.slice none 0 0,.pointer (some ⟨gE,0,none⟩),.pointer none,.pointer (some ⟨gF,0,none⟩),.bool nem,v,.int .i64 k,.int .i64 tr,.bool true,.int .i64 ox,.int .i64 oy,.int .i64 oa,.int .i64 ob,.int .i64 od]):=by show _→_;intro h v;unfold zcells;rw [EM,atZ_ask,gask_w,gask_n,gask_ok,h,ho,EO.out];rfl
 replace GA:=Lh GA
 replace hnem:=Lh hnem
 replace hv:Blk w g #[.slice none 0 0,.pointer (some ⟨gE,0,none⟩),.pointer none,.pointer (some ⟨gF,0,none⟩),.bool em,v,.int .i64 sw,.int .i64 sn,.bool so,.int .i64 px,.int .i64 py,.int .i64 pa,.int .i64 pb,.int .i64 pd] 150:=by have:=hv;unfold zcells at this;rw [hem,hp,hsw,hsn,hso] at this;exact this
 obtain ⟨i0,hi,hz0,hz1,hz2⟩:=info_parts infoIntZ
 obtain ⟨y1,c1,f1,-⟩:=hb_facts hv
 have HB0:=Lh hb
 have HV:=Lh hv
 have HO0:=Lh hown
 clear hb hv hown hO ho ht hem hp hsw hsn hso EM
 go_enter Tryz.func181,Tryz.ntmps181
 go_wp2_with (at_builtin;refine wpList_append_own _ rfl _ _ 146 rfl w0.heap.size 3 i0 (.int .i64 0) 1 8 Tryz.underlying146 hi hz0 hz1 hz2 rfl (by decide) _ _ _ rfl ((HO0.out.alloc _).alloc _) ⟨w.heap.size+1,0,none⟩ 1 1 [.int .i64 k] rfl rfl ?c1 ?c2 ?c3 ?c4 ?c5 ?_)
 case c1 =>
  intro j u hj
  match j,hj with
  | 0,hj=>simp at hj;subst hj;simp [Addr.add]
 case c2=>intro u hu;simp at hu;subst hu;rfl
 case c3=>unfold maxLen;omega
 case c4=>omega
 case c5=>have:=HB0.out.size;simp;omega
 intro v' w1 hown' hgrow _
 obtain ⟨g',cap',rfl⟩:=own_form hown' (by omega)
 have hn1:=own_ne HO0.out HV.out (by decide)
 have hn3:=own_ne ((HO0.out.alloc (.cells #[.int .i64 0,.bool false] 148))) (Blk.new w #[.int .i64 0,.bool false] 148) (by decide)
 have HV1:=Lh (((HV.out.alloc _).alloc _).grown hgrow hn1)
 have HR1:=Lh (((Blk.new w #[.int .i64 0,.bool false] 148).alloc _).grown hgrow hn3)
 have HB1:=Lh (Below.grown (Nat.le_refl _) ((HB0.out.alloc HB0.out.size _).alloc (by have:=HB0.out.size;simp;omega) _) hgrow (fun g hg=>(HO0.out.lt g hg).1))
 have HK1:Hid (Keeps 148 w w1):=show Keeps _ _ _ from ⟨by have:=hgrow.size;simp at this;omega,fun k cs hk=>((hk.alloc _).alloc _).grown hgrow (own_ne HO0.out hk (by decide))⟩
 have HO1:=Lh hown'
 have hbs0:=HB0.out.size
 have ltg:=HV.out.lt
 have lt4:=HR1.out.lt
 clear c1 f1 y1 hown' hgrow hn1 hn3
 obtain ⟨y1,c1,f1,-⟩:=hb_facts HV1.out
 go_wp2_with fail
 obtain ⟨W,hW⟩:∃ W,W=((w1.setCell ⟨g,5,none⟩ (.slice (some ⟨g',0,none⟩) (s.asked.length+1) cap')).alloc (Obj.cells #[.int .i64 0,.bool false] 148)).alloc (Obj.cells #[.int .i64 0,.int .i64 0,.int .i64 0,.int .i64 0,.int .i64 0] 27):=⟨_,rfl⟩
 rw [← hW]
 obtain ⟨g5,hg5⟩:∃ k,w1.heap.size=k:=⟨_,rfl⟩
 rw [hg5]
 have ho:OnlyAt g w1 W:=by rw [hW];exact ((OnlyAt.refl.setCell 5 _).alloc _).alloc _
 have S:Hid (Blk W g #[.slice none 0 0,.pointer (some ⟨gE,0,none⟩),.pointer none,.pointer (some ⟨gF,0,none⟩),.bool em,.slice (some ⟨g',0,none⟩) (s.asked.length+1) cap',.int .i64 sw,.int .i64 sn,.bool so,.int .i64 px,.int .i64 py,.int .i64 pa,.int .i64 pb,.int .i64 pd] 150):=by rw [hW];exact Blk.of_eq (((HV1.out.setCell_same 5 _).alloc _).alloc _) rfl
 have X4:Hid (Blk W w.heap.size #[.int .i64 0,.bool false] 148):=ho.blk HR1.out (by omega)
 have X5:Hid (Blk W g5 #[.int .i64 0,.bool false] 148):=by rw [hW,← hg5];exact (Blk.new' _ _ _ (by simp)).alloc _
 have X6:Hid (Blk W (g5+1) #[.int .i64 0,.int .i64 0,.int .i64 0,.int .i64 0,.int .i64 0] 27):=by rw [hW,← hg5];exact Blk.new' _ _ _ (by simp)
 have HO:=Lh (own_only HO1.out ho HV1.out (by decide))
 have HK:=Lh (HK1.out.only ho HV1.out (by decide))
 have HB:=Lh (OnlyAt.below ho HB1.out (Nat.le_refl _) (by omega))
 have n1:g<g5:=by rw [← hg5];exact HV1.out.lt
 have n2:w.heap.size<g5:=by omega
 have n3:w0.heap.size≤g5:=by omega
 have zz:=HB.out.size
 clear hW hg5 ho y1 c1 f1 HV1 HR1 HB1 HK1 HO1 hbs0 lt4
 go_cut [7] from 8 (fun s7 wc=>s7 = .int .i64 er∧Hid (OnlyAt (g5+1) W wc)∧Hid (Blk wc (g5+1) #[.int .i64 ox,.int .i64 oy,.int .i64 oa,.int .i64 ob,.int .i64 od] 27))
 case first =>
  have XS:Blk W (g) #[.slice none 0 0,.pointer (some ⟨gE,0,none⟩),.pointer none,.pointer (some ⟨gF,0,none⟩),.bool em,.slice (some ⟨g',0,none⟩) (s.asked.length+1) cap',.int .i64 sw,.int .i64 sn,.bool so,.int .i64 px,.int .i64 py,.int .i64 pa,.int .i64 pb,.int .i64 pd] 150:=S.out
  have XE:Blk W (gE) #[.int .i64 x,.int .i64 y,.int .i64 a,.int .i64 b,.int .i64 d] 27:=(BE.out.keep HB.out)
  have XF:Blk W (gF) #[.int .i64 sa,.int .i64 sb,.int .i64 sc,.int .i64 sd,.int .i64 sl,.int .i64 sh] 39:=(BF.out.keep HB.out)
  have XW:Blk W (g5+1) #[.int .i64 0,.int .i64 0,.int .i64 0,.int .i64 0,.int .i64 0] 27:=X6.out
  have ltE:=BE.out.lt
  have ltF:=BF.out.lt
  have r1:=s3_cells XS
  have r2:=el_cellsZ XE
  have r3:=st_cellsZ XF
  go_region_held3 (fun w'=>(w'.cell? ⟨g,1,none⟩=some (.pointer (some ⟨gE,0,none⟩))∧w'.cell? ⟨g,3,none⟩=some (.pointer (some ⟨gF,0,none⟩)))∧(w'.cell? ⟨gE,0,none⟩=some (.int .i64 x)∧w'.cell? ⟨gE,1,none⟩=some (.int .i64 y)∧w'.cell? ⟨gE,2,none⟩=some (.int .i64 a)∧w'.cell? ⟨gE,3,none⟩=some (.int .i64 b)∧w'.cell? ⟨gE,4,none⟩=some (.int .i64 d))∧(w'.cell? ⟨gF,0,none⟩=some (.int .i64 sa)∧w'.cell? ⟨gF,1,none⟩=some (.int .i64 sb)∧w'.cell? ⟨gF,2,none⟩=some (.int .i64 sc)∧w'.cell? ⟨gF,3,none⟩=some (.int .i64 sd)∧w'.cell? ⟨gF,4,none⟩=some (.int .i64 sl)∧w'.cell? ⟨gF,5,none⟩=some (.int .i64 sh))) (first|with_reducible exact ⟨r1,r2,r3⟩|(refine ⟨?_,?_,?_⟩;(focus (with_reducible refine s3_cells (t:=150) ?_;(repeat (first|with_reducible exact XS|with_reducible refine Blk.drew ?_|(with_reducible refine Blk.setCell_other ?_ ?hB _;case hB=>omega)))));(focus (with_reducible refine el_cellsZ (t:=27) ?_;(repeat (first|with_reducible exact XE|with_reducible refine Blk.drew ?_|(with_reducible refine Blk.setCell_other ?_ ?hB _;case hB=>omega)))));(focus (with_reducible refine st_cellsZ (t:=39) ?_;(repeat (first|with_reducible exact XF|with_reducible refine Blk.drew ?_|(with_reducible refine Blk.setCell_other ?_ ?hB _;case hB=>omega)))));done)|go_simp) (first|(go_at_call 50;refine Calls.mono (rcut_v _ _ _ _ _ _ _ _ _ _ _ _ _ _ _ _ _ _ CO.out _) ?_;rintro e w4 ⟨rfl,hb4⟩;have XS:Blk w4 (g) #[.slice none 0 0,.pointer (some ⟨gE,0,none⟩),.pointer none,.pointer (some ⟨gF,0,none⟩),.bool em,.slice (some ⟨g',0,none⟩) (s.asked.length+1) cap',.int .i64 sw,.int .i64 sn,.bool so,.int .i64 px,.int .i64 py,.int .i64 pa,.int .i64 pb,.int .i64 pd] 150:=(by (with_reducible refine Blk.keep ?_ hb4);(repeat (first|with_reducible exact XS|with_reducible refine Blk.drew ?_|(with_reducible refine Blk.setCell_other ?_ ?hB _;case hB=>omega))));have XE:Blk w4 (gE) #[.int .i64 x,.int .i64 y,.int .i64 a,.int .i64 b,.int .i64 d] 27:=(by (with_reducible refine Blk.keep ?_ hb4);(repeat (first|with_reducible exact XE|with_reducible refine Blk.drew ?_|(with_reducible refine Blk.setCell_other ?_ ?hB _;case hB=>omega))));have XF:Blk w4 (gF) #[.int .i64 sa,.int .i64 sb,.int .i64 sc,.int .i64 sd,.int .i64 sl,.int .i64 sh] 39:=(by (with_reducible refine Blk.keep ?_ hb4);(repeat (first|with_reducible exact XF|with_reducible refine Blk.drew ?_|(with_reducible refine Blk.setCell_other ?_ ?hB _;case hB=>omega))));have XW:Blk w4 (g5+1) #[.int .i64 0,.int .i64 0,.int .i64 0,.int .i64 0,.int .i64 0] 27:=(by (with_reducible refine Blk.keep ?_ hb4);(repeat (first|with_reducible exact XW|with_reducible refine Blk.drew ?_|(with_reducible refine Blk.setCell_other ?_ ?hB _;case hB=>omega))));have r1:=s3_cells XS;have r2:=el_cellsZ XE;have r3:=st_cellsZ XF;obtain ⟨y6,c6,f6,-⟩:=hb_facts XW))
  all_goals go_wp2_with fail
  all_goals go_meet
  all_goals refine ⟨rfl,?_,?_⟩
  all_goals first
   | (show OnlyAt _ _ _;exact (by repeat (first|with_reducible exact OnlyAt.refl|with_reducible refine OnlyAt.drew ?_|with_reducible refine OnlyAt.setCell ?_ _ _|(with_reducible refine OnlyAt.setNew ?_ ?hB _ _;case hB=>(first|omega|(simp;done)|(simp;omega)))|with_reducible refine OnlyAt.alloc ?_ _|with_reducible refine OnlyAt.trans ?_ (OnlyAt.of_below (by assumption))|with_reducible refine OnlyAt.trans ?_ (by assumption))))
   | (show Blk _ _ _ _;apply Blk.of_eq;(focus (repeat (first|with_reducible exact XW|with_reducible apply Blk.drew|with_reducible apply Blk.setCell_same|with_reducible apply Blk.alloc)));rfl)
 case rest =>
  obtain ⟨rfl,HOA,HX⟩:=hcut
  obtain ⟨V1,hV1⟩:∃ v,v=wc:=⟨_,rfl⟩
  subst hV1
  have ho:=HOA.out
  replace HO:=Lh (own_only HO.out ho X6.out (by decide))
  replace HK:=Lh (HK.out.onlyNew ho (by omega))
  replace S:=Lh (ho.blk S.out (by omega))
  replace X4:=Lh (ho.blk X4.out (by omega))
  replace X5:=Lh (ho.blk X5.out (by omega))
  replace HB:=Lh (OnlyAt.below ho HB.out (Nat.le_refl _) (by omega))
  replace X6:=HX
  clear ho HX HOA
  go_upto_region 11 with fail
  go_cut [7] from 8 (fun s7 we=>s7 = .int .i64 er∧we=V1.setCell ⟨g,4,none⟩ (.bool nem))
  case first =>
   have qSe:=S.out.cell (i:=4) (v := .bool em) rfl
   have rl:=S.out.lt
   have fz_S:=S.out.frozen
   have ft_S:=S.out.fits 14 (by simp)
   cases em with
   | true =>
    obtain rfl:nem=true:=by have:=hnem.out;simpa using this.symm
    go_wp2_with fail
    go_meet
    exact ⟨rfl,rfl⟩
   | false =>
    cases b3:er==3 with
    | true =>
     obtain rfl:nem=true:=by have:=hnem.out;rw [b3] at this;simpa using this.symm
     go_wp2_with fail
     go_meet
     exact ⟨rfl,rfl⟩
    | false =>
     obtain rfl:nem=false:=by have:=hnem.out;rw [b3] at this;simpa using this.symm
     go_wp2_with fail
     go_meet
     exact ⟨rfl,rfl⟩
  case rest =>
   obtain ⟨rfl,rfl⟩:=hcut
   obtain ⟨v1,hv⟩:∃ v,v=(V1).setCell ⟨g,4,none⟩ (.bool nem):=⟨_,rfl⟩
   rw [← hv]
   have ho:OnlyAt (g) V1 v1:=by rw [hv];exact (OnlyAt.refl).setCell 4 _
   replace HO:=Lh (own_only HO.out ho S.out (by decide))
   replace HK:=Lh (HK.out.only ho S.out (by decide))
   replace X4:=Lh (ho.blk X4.out (by omega))
   replace X5:=Lh (ho.blk X5.out (by omega))
   replace X6:=Lh (ho.blk X6.out (by omega))
   replace HB:=Lh (OnlyAt.below ho HB.out (Nat.le_refl _) (by omega))
   replace S:Hid (Blk v1 (g) #[.slice none 0 0,.pointer (some ⟨gE,0,none⟩),.pointer none,.pointer (some ⟨gF,0,none⟩),.bool nem,.slice (some ⟨g',0,none⟩) (s.asked.length+1) cap',.int .i64 sw,.int .i64 sn,.bool so,.int .i64 px,.int .i64 py,.int .i64 pa,.int .i64 pb,.int .i64 pd] 150):=by rw [hv];exact Blk.of_eq ((S.out).setCell_same 4 _) (by simp)
   clear ho hv
   obtain ⟨qX6a,qX6b,qX6c,qX6d,qX6e⟩:=cl5 X6
   have rl_X6:=X6.out.lt
   go_wp2_with fail
   clear qX6a qX6b qX6c qX6d qX6e rl_X6
   refine Calls.mono (rtrace_v _ _ _ _ _ _ HT.out _) ?_
   rintro e x2 ⟨rfl,hb⟩
   replace S:=Kp S hb
   replace X4:=Kp X4 hb
   replace X5:=Kp X5 hb
   replace X6:=Kp X6 hb
   replace HO:=Lh (own_below HO.out hb)
   replace HK:=Lh (HK.out.trans (Keeps.below hb))
   replace HB:=Tp HB hb
   have zz:=HB.out.size
   clear hb
   cases b0:er==0 with
   | false =>
    obtain ⟨qX5a,qX5b⟩:=cl2 X5
    have rl_X5:=X5.out.lt
    have fz_X5:=X5.out.frozen
    have ft_X5:=X5.out.fits 2 (by simp)
    go_wp2_with fail
    clear qX5a qX5b rl_X5 fz_X5 ft_X5
    obtain ⟨v3,hv⟩:∃ v,v=((x2).setCell ⟨g5,0,none⟩ (.int .i64 tr)).setCell ⟨g5,1,none⟩ (.bool false):=⟨_,rfl⟩
    rw [← hv]
    have ho:OnlyAt (g5) x2 v3:=by rw [hv];exact ((OnlyAt.refl).setCell 0 _).setCell 1 _
    replace HO:=Lh (own_only HO.out ho X5.out (by decide))
    replace HK:=Lh (HK.out.onlyNew ho (by omega))
    replace S:=Lh (ho.blk S.out (by omega))
    replace X4:=Lh (ho.blk X4.out (by omega))
    replace X6:=Lh (ho.blk X6.out (by omega))
    replace HB:=Lh (OnlyAt.below ho HB.out (Nat.le_refl _) (by omega))
    replace X5:Hid (Blk v3 (g5) #[.int .i64 tr,.bool false] 148):=by rw [hv];exact Blk.of_eq (((X5.out).setCell_same 0 _).setCell_same 1 _) (by simp)
    clear ho hv
    have GB:better (ovV O) k s=false:=by rw [GA.out,b0];simp
    have EZ:=Lh (Z0.out GB)
    clear GB Z0 Z1 GA
    obtain ⟨qX5a,qX5b⟩:=rg2 X5
    obtain ⟨qSa,qSb,qSc,qSd,qSe,qSf,qSg,qSh,qSi,qSj,qSk,qSl,qSm,qSn⟩:=rg14 S
    refine wp_region_quiet_below (by kernel_rfl) (by kernel_rfl) ?_
    repeat (go_big_quiet_step (fail))
    refine wpQuiet_nil ?_
    intro x4 hw
    have hb:=below_of_regrown hw
    clear hw qX5a qX5b qSa qSb qSc qSd qSe qSf qSg qSh qSi qSj qSk qSl qSm qSn
    replace S:=Kp S hb
    replace X4:=Kp X4 hb
    replace X5:=Kp X5 hb
    replace X6:=Kp X6 hb
    replace HO:=Lh (own_below HO.out hb)
    replace HK:=Lh (HK.out.trans (Keeps.below hb))
    replace HB:=Tp HB hb
    have zz:=HB.out.size
    clear hb
    obtain ⟨qX5a,qX5b⟩:=cl2 X5
    have rl_X5:=X5.out.lt
    obtain ⟨qX4a,qX4b⟩:=cl2 X4
    have rl_X4:=X4.out.lt
    have fz_X4:=X4.out.frozen
    have ft_X4:=X4.out.fits 2 (by simp)
    go_wp2_with fail
    refine bodyPost_row 2 #[.int .i64 tr,.bool false] rfl rfl rfl Tryz.underlying148 rfl (by kernel_rfl) (rc2 (by go_simp) (by go_simp)) ⟨by rw [EO.out,b0],⟨OnlyAt.below ((OnlyAt.refl.setCell 0 _).setCell 1 _) HB.out (Nat.le_refl _) (by omega),hg,.slice (some ⟨g',0,none⟩) (s.asked.length+1) cap',?_,?_⟩,?_⟩
    ·rw [EZ.out];exact OnlyAt.blk ((OnlyAt.refl.setCell 0 _).setCell 1 _) S.out (by omega)
    ·rw [gask_len,List.length_append,List.map_append];exact own_only HO.out ((OnlyAt.refl.setCell 0 _).setCell 1 _) X4.out (by decide)
    ·exact HK.out.onlyNew ((OnlyAt.refl.setCell 0 _).setCell 1 _) (by omega)
   | true =>
    obtain ⟨qX5a,qX5b⟩:=cl2 X5
    have rl_X5:=X5.out.lt
    have fz_X5:=X5.out.frozen
    have ft_X5:=X5.out.fits 2 (by simp)
    go_wp2_with fail
    clear qX5a qX5b rl_X5 fz_X5 ft_X5
    obtain ⟨v3,hv⟩:∃ v,v=((x2).setCell ⟨g5,0,none⟩ (.int .i64 tr)).setCell ⟨g5,1,none⟩ (.bool true):=⟨_,rfl⟩
    rw [← hv]
    have ho:OnlyAt (g5) x2 v3:=by rw [hv];exact ((OnlyAt.refl).setCell 0 _).setCell 1 _
    replace HO:=Lh (own_only HO.out ho X5.out (by decide))
    replace HK:=Lh (HK.out.onlyNew ho (by omega))
    replace S:=Lh (ho.blk S.out (by omega))
    replace X4:=Lh (ho.blk X4.out (by omega))
    replace X6:=Lh (ho.blk X6.out (by omega))
    replace HB:=Lh (OnlyAt.below ho HB.out (Nat.le_refl _) (by omega))
    replace X5:Hid (Blk v3 (g5) #[.int .i64 tr,.bool true] 148):=by rw [hv];exact Blk.of_eq (((X5.out).setCell_same 0 _).setCell_same 1 _) (by simp)
    clear ho hv
    cases so with
    | false =>
     have GB:better (ovV O) k s=true:=by rw [GA.out,b0];simp []
     have EZ:=Lh (Z1.out GB)
     clear GB Z0 Z1 GA
     obtain ⟨qX5a,qX5b⟩:=rg2 X5
     obtain ⟨qSa,qSb,qSc,qSd,qSe,qSf,qSg,qSh,qSi,qSj,qSk,qSl,qSm,qSn⟩:=rg14 S
     refine wp_region_quiet_below (by kernel_rfl) (by kernel_rfl) ?_
     repeat (go_big_quiet_step (fail))
     refine wpQuiet_nil ?_
     intro x4 hw
     have hb:=below_of_regrown hw
     clear hw qX5a qX5b qSa qSb qSc qSd qSe qSf qSg qSh qSi qSj qSk qSl qSm qSn
     replace S:=Kp S hb
     replace X4:=Kp X4 hb
     replace X5:=Kp X5 hb
     replace X6:=Kp X6 hb
     replace HO:=Lh (own_below HO.out hb)
     replace HK:=Lh (HK.out.trans (Keeps.below hb))
     replace HB:=Tp HB hb
     have zz:=HB.out.size
     clear hb
     obtain ⟨qX5a,qX5b⟩:=cl2 X5
     have rl_X5:=X5.out.lt
     obtain ⟨qX6a,qX6b,qX6c,qX6d,qX6e⟩:=cl5 X6
     have rl_X6:=X6.out.lt
     obtain ⟨qX4a,qX4b⟩:=cl2 X4
     have rl_X4:=X4.out.lt
     obtain ⟨qSa,qSb,qSc,qSd,qSe,qSf,qSg,qSh,qSi,qSj,qSk,qSl,qSm,qSn⟩:=cl14 S
     have rl_S:=S.out.lt
     have fz_X4:=X4.out.frozen
     have ft_X4:=X4.out.fits 2 (by simp)
     have fz_S:=S.out.frozen
     have ft_S:=S.out.fits 14 (by simp)
     go_wp2_with fail
     go_region
     all_goals go_wp2_with fail
     clear qX5a qX5b rl_X5 qX6a qX6b qX6c qX6d qX6e rl_X6 qX4a qX4b rl_X4 qSa qSb qSc qSd qSe qSf qSg qSh qSi qSj qSk qSl qSm qSn rl_S fz_X4 ft_X4 fz_S ft_S
     obtain ⟨v5,hv⟩:∃ v,v=((((((((x4).setCell ⟨g,6,none⟩ (.int .i64 k)).setCell ⟨g,7,none⟩ (.int .i64 tr)).setCell ⟨g,8,none⟩ (.bool true)).setCell ⟨g,9,none⟩ (.int .i64 ox)).setCell ⟨g,10,none⟩ (.int .i64 oy)).setCell ⟨g,11,none⟩ (.int .i64 oa)).setCell ⟨g,12,none⟩ (.int .i64 ob)).setCell ⟨g,13,none⟩ (.int .i64 od):=⟨_,rfl⟩
     rw [← hv]
     have ho:OnlyAt (g) x4 v5:=by rw [hv];exact ((((((((OnlyAt.refl).setCell 6 _).setCell 7 _).setCell 8 _).setCell 9 _).setCell 10 _).setCell 11 _).setCell 12 _).setCell 13 _
     replace HO:=Lh (own_only HO.out ho S.out (by decide))
     replace HK:=Lh (HK.out.only ho S.out (by decide))
     replace X4:=Lh (ho.blk X4.out (by omega))
     replace X5:=Lh (ho.blk X5.out (by omega))
     replace X6:=Lh (ho.blk X6.out (by omega))
     replace HB:=Lh (OnlyAt.below ho HB.out (Nat.le_refl _) (by omega))
     replace S:Hid (Blk v5 (g) #[.slice none 0 0,.pointer (some ⟨gE,0,none⟩),.pointer none,.pointer (some ⟨gF,0,none⟩),.bool nem,.slice (some ⟨g',0,none⟩) (s.asked.length+1) cap',.int .i64 k,.int .i64 tr,.bool true,.int .i64 ox,.int .i64 oy,.int .i64 oa,.int .i64 ob,.int .i64 od] 150):=by rw [hv];exact Blk.of_eq (((((((((S.out).setCell_same 6 _).setCell_same 7 _).setCell_same 8 _).setCell_same 9 _).setCell_same 10 _).setCell_same 11 _).setCell_same 12 _).setCell_same 13 _) (by simp)
     clear ho hv
     obtain ⟨qX4a,qX4b⟩:=cl2 X4
     have rl_X4:=X4.out.lt
     have fz_X4:=X4.out.frozen
     have ft_X4:=X4.out.fits 2 (by simp)
     refine bodyPost_row 2 #[.int .i64 tr,.bool true] rfl rfl rfl Tryz.underlying148 rfl (by kernel_rfl) (rc2 (by go_simp) (by go_simp)) ⟨by rw [EO.out,b0],⟨OnlyAt.below ((OnlyAt.refl.setCell 0 _).setCell 1 _).drew HB.out (Nat.le_refl _) (by omega),hg,.slice (some ⟨g',0,none⟩) (s.asked.length+1) cap',?_,?_⟩,?_⟩
     ·rw [EZ.out];exact OnlyAt.blk ((OnlyAt.refl.setCell 0 _).setCell 1 _).drew S.out (by omega)
     ·rw [gask_len,List.length_append,List.map_append];exact own_only HO.out ((OnlyAt.refl.setCell 0 _).setCell 1 _).drew X4.out (by decide)
     ·exact HK.out.onlyNew ((OnlyAt.refl.setCell 0 _).setCell 1 _).drew (by omega)
    | true =>
     by_cases j1:tr<sn
     ·have GB:better (ovV O) k s=true:=by rw [GA.out,b0];simp [j1]
      have EZ:=Lh (Z1.out GB)
      clear GB Z0 Z1 GA
      obtain ⟨qX5a,qX5b⟩:=rg2 X5
      obtain ⟨qSa,qSb,qSc,qSd,qSe,qSf,qSg,qSh,qSi,qSj,qSk,qSl,qSm,qSn⟩:=rg14 S
      refine wp_region_quiet_below (by kernel_rfl) (by kernel_rfl) ?_
      repeat (go_big_quiet_step (fail))
      refine wpQuiet_nil ?_
      intro x4 hw
      have hb:=below_of_regrown hw
      clear hw qX5a qX5b qSa qSb qSc qSd qSe qSf qSg qSh qSi qSj qSk qSl qSm qSn
      replace S:=Kp S hb
      replace X4:=Kp X4 hb
      replace X5:=Kp X5 hb
      replace X6:=Kp X6 hb
      replace HO:=Lh (own_below HO.out hb)
      replace HK:=Lh (HK.out.trans (Keeps.below hb))
      replace HB:=Tp HB hb
      have zz:=HB.out.size
      clear hb
      obtain ⟨qX5a,qX5b⟩:=cl2 X5
      have rl_X5:=X5.out.lt
      obtain ⟨qX6a,qX6b,qX6c,qX6d,qX6e⟩:=cl5 X6
      have rl_X6:=X6.out.lt
      obtain ⟨qX4a,qX4b⟩:=cl2 X4
      have rl_X4:=X4.out.lt
      obtain ⟨qSa,qSb,qSc,qSd,qSe,qSf,qSg,qSh,qSi,qSj,qSk,qSl,qSm,qSn⟩:=cl14 S
      have rl_S:=S.out.lt
      have fz_X4:=X4.out.frozen
      have ft_X4:=X4.out.fits 2 (by simp)
      have fz_S:=S.out.frozen
      have ft_S:=S.out.fits 14 (by simp)
      go_wp2_with fail
      go_region
      all_goals go_wp2_with fail
      clear qX5a qX5b rl_X5 qX6a qX6b qX6c qX6d qX6e rl_X6 qX4a qX4b rl_X4 qSa qSb qSc qSd qSe qSf qSg qSh qSi qSj qSk qSl qSm qSn rl_S fz_X4 ft_X4 fz_S ft_S
      obtain ⟨v5,hv⟩:∃ v,v=((((((((x4).setCell ⟨g,6,none⟩ (.int .i64 k)).setCell ⟨g,7,none⟩ (.int .i64 tr)).setCell ⟨g,8,none⟩ (.bool true)).setCell ⟨g,9,none⟩ (.int .i64 ox)).setCell ⟨g,10,none⟩ (.int .i64 oy)).setCell ⟨g,11,none⟩ (.int .i64 oa)).setCell ⟨g,12,none⟩ (.int .i64 ob)).setCell ⟨g,13,none⟩ (.int .i64 od):=⟨_,rfl⟩
      rw [← hv]
      have ho:OnlyAt (g) x4 v5:=by rw [hv];exact ((((((((OnlyAt.refl).setCell 6 _).setCell 7 _).setCell 8 _).setCell 9 _).setCell 10 _).setCell 11 _).setCell 12 _).setCell 13 _
      replace HO:=Lh (own_only HO.out ho S.out (by decide))
      replace HK:=Lh (HK.out.only ho S.out (by decide))
      replace X4:=Lh (ho.blk X4.out (by omega))
      replace X5:=Lh (ho.blk X5.out (by omega))
      replace X6:=Lh (ho.blk X6.out (by omega))
      replace HB:=Lh (OnlyAt.below ho HB.out (Nat.le_refl _) (by omega))
      replace S:Hid (Blk v5 (g) #[.slice none 0 0,.pointer (some ⟨gE,0,none⟩),.pointer none,.pointer (some ⟨gF,0,none⟩),.bool nem,.slice (some ⟨g',0,none⟩) (s.asked.length+1) cap',.int .i64 k,.int .i64 tr,.bool true,.int .i64 ox,.int .i64 oy,.int .i64 oa,.int .i64 ob,.int .i64 od] 150):=by rw [hv];exact Blk.of_eq (((((((((S.out).setCell_same 6 _).setCell_same 7 _).setCell_same 8 _).setCell_same 9 _).setCell_same 10 _).setCell_same 11 _).setCell_same 12 _).setCell_same 13 _) (by simp)
      clear ho hv
      obtain ⟨qX4a,qX4b⟩:=cl2 X4
      have rl_X4:=X4.out.lt
      have fz_X4:=X4.out.frozen
      have ft_X4:=X4.out.fits 2 (by simp)
      refine bodyPost_row 2 #[.int .i64 tr,.bool true] rfl rfl rfl Tryz.underlying148 rfl (by kernel_rfl) (rc2 (by go_simp) (by go_simp)) ⟨by rw [EO.out,b0],⟨OnlyAt.below ((OnlyAt.refl.setCell 0 _).setCell 1 _).drew HB.out (Nat.le_refl _) (by omega),hg,.slice (some ⟨g',0,none⟩) (s.asked.length+1) cap',?_,?_⟩,?_⟩
      ·rw [EZ.out];exact OnlyAt.blk ((OnlyAt.refl.setCell 0 _).setCell 1 _).drew S.out (by omega)
      ·rw [gask_len,List.length_append,List.map_append];exact own_only HO.out ((OnlyAt.refl.setCell 0 _).setCell 1 _).drew X4.out (by decide)
      ·exact HK.out.onlyNew ((OnlyAt.refl.setCell 0 _).setCell 1 _).drew (by omega)
     ·by_cases j2:tr=sn
      ·subst j2
       by_cases j3:k<sw
       ·have GB:better (ovV O) k s=true:=by rw [GA.out,b0];simp [j3]
        have EZ:=Lh (Z1.out GB)
        clear GB Z0 Z1 GA
        obtain ⟨qX5a,qX5b⟩:=rg2 X5
        obtain ⟨qSa,qSb,qSc,qSd,qSe,qSf,qSg,qSh,qSi,qSj,qSk,qSl,qSm,qSn⟩:=rg14 S
        refine wp_region_quiet_below (by kernel_rfl) (by kernel_rfl) ?_
        repeat (go_big_quiet_step (fail))
        refine wpQuiet_nil ?_
        intro x4 hw
        have hb:=below_of_regrown hw
        clear hw qX5a qX5b qSa qSb qSc qSd qSe qSf qSg qSh qSi qSj qSk qSl qSm qSn
        replace S:=Kp S hb
        replace X4:=Kp X4 hb
        replace X5:=Kp X5 hb
        replace X6:=Kp X6 hb
        replace HO:=Lh (own_below HO.out hb)
        replace HK:=Lh (HK.out.trans (Keeps.below hb))
        replace HB:=Tp HB hb
        have zz:=HB.out.size
        clear hb
        obtain ⟨qX5a,qX5b⟩:=cl2 X5
        have rl_X5:=X5.out.lt
        obtain ⟨qX6a,qX6b,qX6c,qX6d,qX6e⟩:=cl5 X6
        have rl_X6:=X6.out.lt
        obtain ⟨qX4a,qX4b⟩:=cl2 X4
        have rl_X4:=X4.out.lt
        obtain ⟨qSa,qSb,qSc,qSd,qSe,qSf,qSg,qSh,qSi,qSj,qSk,qSl,qSm,qSn⟩:=cl14 S
        have rl_S:=S.out.lt
        have fz_X4:=X4.out.frozen
        have ft_X4:=X4.out.fits 2 (by simp)
        have fz_S:=S.out.frozen
        have ft_S:=S.out.fits 14 (by simp)
        go_wp2_with fail
        go_region
        all_goals go_wp2_with fail
        clear qX5a qX5b rl_X5 qX6a qX6b qX6c qX6d qX6e rl_X6 qX4a qX4b rl_X4 qSa qSb qSc qSd qSe qSf qSg qSh qSi qSj qSk qSl qSm qSn rl_S fz_X4 ft_X4 fz_S ft_S
        obtain ⟨v5,hv⟩:∃ v,v=((((((((x4).setCell ⟨g,6,none⟩ (.int .i64 k)).setCell ⟨g,7,none⟩ (.int .i64 tr)).setCell ⟨g,8,none⟩ (.bool true)).setCell ⟨g,9,none⟩ (.int .i64 ox)).setCell ⟨g,10,none⟩ (.int .i64 oy)).setCell ⟨g,11,none⟩ (.int .i64 oa)).setCell ⟨g,12,none⟩ (.int .i64 ob)).setCell ⟨g,13,none⟩ (.int .i64 od):=⟨_,rfl⟩
        rw [← hv]
        have ho:OnlyAt (g) x4 v5:=by rw [hv];exact ((((((((OnlyAt.refl).setCell 6 _).setCell 7 _).setCell 8 _).setCell 9 _).setCell 10 _).setCell 11 _).setCell 12 _).setCell 13 _
        replace HO:=Lh (own_only HO.out ho S.out (by decide))
        replace HK:=Lh (HK.out.only ho S.out (by decide))
        replace X4:=Lh (ho.blk X4.out (by omega))
        replace X5:=Lh (ho.blk X5.out (by omega))
        replace X6:=Lh (ho.blk X6.out (by omega))
        replace HB:=Lh (OnlyAt.below ho HB.out (Nat.le_refl _) (by omega))
        replace S:Hid (Blk v5 (g) #[.slice none 0 0,.pointer (some ⟨gE,0,none⟩),.pointer none,.pointer (some ⟨gF,0,none⟩),.bool nem,.slice (some ⟨g',0,none⟩) (s.asked.length+1) cap',.int .i64 k,.int .i64 tr,.bool true,.int .i64 ox,.int .i64 oy,.int .i64 oa,.int .i64 ob,.int .i64 od] 150):=by rw [hv];exact Blk.of_eq (((((((((S.out).setCell_same 6 _).setCell_same 7 _).setCell_same 8 _).setCell_same 9 _).setCell_same 10 _).setCell_same 11 _).setCell_same 12 _).setCell_same 13 _) (by simp)
        clear ho hv
        obtain ⟨qX4a,qX4b⟩:=cl2 X4
        have rl_X4:=X4.out.lt
        have fz_X4:=X4.out.frozen
        have ft_X4:=X4.out.fits 2 (by simp)
        refine bodyPost_row 2 #[.int .i64 tr,.bool true] rfl rfl rfl Tryz.underlying148 rfl (by kernel_rfl) (rc2 (by go_simp) (by go_simp)) ⟨by rw [EO.out,b0],⟨OnlyAt.below ((OnlyAt.refl.setCell 0 _).setCell 1 _).drew HB.out (Nat.le_refl _) (by omega),hg,.slice (some ⟨g',0,none⟩) (s.asked.length+1) cap',?_,?_⟩,?_⟩
        ·rw [EZ.out];exact OnlyAt.blk ((OnlyAt.refl.setCell 0 _).setCell 1 _).drew S.out (by omega)
        ·rw [gask_len,List.length_append,List.map_append];exact own_only HO.out ((OnlyAt.refl.setCell 0 _).setCell 1 _).drew X4.out (by decide)
        ·exact HK.out.onlyNew ((OnlyAt.refl.setCell 0 _).setCell 1 _).drew (by omega)
       ·have GB:better (ovV O) k s=false:=by rw [GA.out,b0];simp [j3]
        have EZ:=Lh (Z0.out GB)
        clear GB Z0 Z1 GA
        obtain ⟨qX5a,qX5b⟩:=rg2 X5
        obtain ⟨qSa,qSb,qSc,qSd,qSe,qSf,qSg,qSh,qSi,qSj,qSk,qSl,qSm,qSn⟩:=rg14 S
        refine wp_region_quiet_below (by kernel_rfl) (by kernel_rfl) ?_
        repeat (go_big_quiet_step (fail))
        refine wpQuiet_nil ?_
        intro x4 hw
        have hb:=below_of_regrown hw
        clear hw qX5a qX5b qSa qSb qSc qSd qSe qSf qSg qSh qSi qSj qSk qSl qSm qSn
        replace S:=Kp S hb
        replace X4:=Kp X4 hb
        replace X5:=Kp X5 hb
        replace X6:=Kp X6 hb
        replace HO:=Lh (own_below HO.out hb)
        replace HK:=Lh (HK.out.trans (Keeps.below hb))
        replace HB:=Tp HB hb
        have zz:=HB.out.size
        clear hb
        obtain ⟨qX5a,qX5b⟩:=cl2 X5
        have rl_X5:=X5.out.lt
        obtain ⟨qX4a,qX4b⟩:=cl2 X4
        have rl_X4:=X4.out.lt
        have fz_X4:=X4.out.frozen
        have ft_X4:=X4.out.fits 2 (by simp)
        go_wp2_with fail
        refine bodyPost_row 2 #[.int .i64 tr,.bool true] rfl rfl rfl Tryz.underlying148 rfl (by kernel_rfl) (rc2 (by go_simp) (by go_simp)) ⟨by rw [EO.out,b0],⟨OnlyAt.below ((OnlyAt.refl.setCell 0 _).setCell 1 _) HB.out (Nat.le_refl _) (by omega),hg,.slice (some ⟨g',0,none⟩) (s.asked.length+1) cap',?_,?_⟩,?_⟩
        ·rw [EZ.out];exact OnlyAt.blk ((OnlyAt.refl.setCell 0 _).setCell 1 _) S.out (by omega)
        ·rw [gask_len,List.length_append,List.map_append];exact own_only HO.out ((OnlyAt.refl.setCell 0 _).setCell 1 _) X4.out (by decide)
        ·exact HK.out.onlyNew ((OnlyAt.refl.setCell 0 _).setCell 1 _) (by omega)
      ·have j2':(tr==sn)=false:=by simp [j2]
       have GB:better (ovV O) k s=false:=by rw [GA.out,b0];simp [j1,j2]
       have EZ:=Lh (Z0.out GB)
       clear GB Z0 Z1 GA
       obtain ⟨qX5a,qX5b⟩:=rg2 X5
       obtain ⟨qSa,qSb,qSc,qSd,qSe,qSf,qSg,qSh,qSi,qSj,qSk,qSl,qSm,qSn⟩:=rg14 S
       refine wp_region_quiet_below (by kernel_rfl) (by kernel_rfl) ?_
       repeat (go_big_quiet_step (fail))
       refine wpQuiet_nil ?_
       intro x4 hw
       have hb:=below_of_regrown hw
       clear hw qX5a qX5b qSa qSb qSc qSd qSe qSf qSg qSh qSi qSj qSk qSl qSm qSn
       replace S:=Kp S hb
       replace X4:=Kp X4 hb
       replace X5:=Kp X5 hb
       replace X6:=Kp X6 hb
       replace HO:=Lh (own_below HO.out hb)
       replace HK:=Lh (HK.out.trans (Keeps.below hb))
       replace HB:=Tp HB hb
       have zz:=HB.out.size
       clear hb
       obtain ⟨qX5a,qX5b⟩:=cl2 X5
       have rl_X5:=X5.out.lt
       obtain ⟨qX4a,qX4b⟩:=cl2 X4
       have rl_X4:=X4.out.lt
       have fz_X4:=X4.out.frozen
       have ft_X4:=X4.out.fits 2 (by simp)
       go_wp2_with fail
       refine bodyPost_row 2 #[.int .i64 tr,.bool true] rfl rfl rfl Tryz.underlying148 rfl (by kernel_rfl) (rc2 (by go_simp) (by go_simp)) ⟨by rw [EO.out,b0],⟨OnlyAt.below ((OnlyAt.refl.setCell 0 _).setCell 1 _) HB.out (Nat.le_refl _) (by omega),hg,.slice (some ⟨g',0,none⟩) (s.asked.length+1) cap',?_,?_⟩,?_⟩
       ·rw [EZ.out];exact OnlyAt.blk ((OnlyAt.refl.setCell 0 _).setCell 1 _) S.out (by omega)
       ·rw [gask_len,List.length_append,List.map_append];exact own_only HO.out ((OnlyAt.refl.setCell 0 _).setCell 1 _) X4.out (by decide)
       ·exact HK.out.onlyNew ((OnlyAt.refl.setCell 0 _).setCell 1 _) (by omega)
end Go.Proofs.YtilginoibhfeiaaGreat
