/- Laws. -/
import Derived.Test.YtilginoibhfeiaaGreatZ1
set_option maxRecDepth 100000
set_option maxHeartbeats 16000000
namespace Go.Proofs.YtilginoibhfeiaaGreat
open Go.RowKit
section
variable {w0 w w':World} {g:Nat} {E F S:Value} {O:Int→El × Int} {s:GS}
theorem RZ.drew (h:RZ w0 g E F S O s w):RZ w0 g E F S O s w.drew:=⟨h.1.drew,h.2⟩
theorem RZ.alloc (h:RZ w0 g E F S O s w) (o:Obj):RZ w0 g E F S O s (w.alloc o):=by
 obtain ⟨h1,h2,v,h3,h4⟩:=h
 exact ⟨h1.alloc h1.size o,h2,v,h3.alloc o,h4.alloc o⟩
theorem RZ.below (h:RZ w0 g E F S O s w) (hb:Below w.heap.size w w'):RZ w0 g E F S O s w':=by
 obtain ⟨h1,h2,v,h3,h4⟩:=h
 exact ⟨h1.trans (hb.mono h1.size),h2,v,h3.keep hb,own_below h4 hb⟩
theorem RZ.setCell {t:TypeId} {g1:Nat} {cs:Array Value} (h:RZ w0 g E F S O s w) (hb:Blk w g1 cs t) (ht:t≠150∧t≠3) (hg:w0.heap.size≤g1) (i:Nat) (u:Value):RZ w0 g E F S O s (w.setCell ⟨g1,i,none⟩ u):=by
 obtain ⟨h1,h2,v,h3,h4⟩:=h
 exact ⟨h1.setCell hg _,h2,v,h3.setCell_other (Ne.symm (Blk.ne hb h3 ht.1)) _,ownsRow_setCell_other h4 (own_ne h4 hb (Ne.symm ht.2)) _⟩
theorem RZ.set2 {t:TypeId} {g1:Nat} {cs:Array Value} (h:RZ w0 g E F S O s w) (hb:Blk w g1 cs t) (ht:t≠150∧t≠3) (hg:w0.heap.size≤g1) (i j:Nat) (u u':Value):RZ w0 g E F S O s ((w.setCell ⟨g1,i,none⟩ u).setCell ⟨g1,j,none⟩ u') :=
 (h.setCell hb ht hg i u).setCell (hb.setCell_same i u) ht hg j u'
end
theorem zbest_c (w0:World) (g:Nat) (E F S:Value) (O:Int→El × Int) (w:World)
  (R0:∀ (s:GS) (x:Int) (w:World),s.asked.length≤7→0≤x→x≤34→RZ w0 g E F S O s w→Calls Tryz.prog 181 #[.pointer (some ⟨g,0,none⟩),.int .i64 x] w fun e w'=>e = .returned (.agg #[.int .i64 (ovV O x).1,.bool (ovV O x).2])∧RZ w0 g E F S O (gask (ovV O) x s) w'∧Keeps 148 w w')
  (h:RZ w0 g E F S O ⟨[],0,0,false⟩ w) :
  Calls Tryz.prog 124 #[.pointer (some ⟨g,0,none⟩)] w fun e w'=>e = .returned (.tuple #[.int .i64 (gfin (ovV O)).w,.int .i64 (gfin (ovV O)).n,.bool (gfin (ovV O)).ok])∧RZ w0 g E F S O (gfin (ovV O)) w':=by
 obtain ⟨V,hV⟩:∃ V,V=ovV O:=⟨_,rfl⟩
 rw [← hV]
 have R:=fun s x w h1 h2 h3 h4=>Lh (R0 s x w h1 h2 h3 h4)
 clear R0
 rw [← hV] at R
 clear hV
 have HI0:=Lh h
 clear h
 go_enter Tryz.func124,Tryz.ntmps124
 go_wp2_with fail
 refine (R ⟨[],0,0,false⟩ 13 _ (by decide) (by decide) (by decide) HI0.out).out.mono ?_
 rintro e w1 ⟨rfl,hI1,-⟩
 have HI1:=Lh hI1
 clear hI1
 go_wp2_with fail
 refine (R (gask V 13 ⟨[],0,0,false⟩) 21 _ (by rw [gask_len];decide) (by decide) (by decide) HI1.out).out.mono ?_
 rintro e w2 ⟨rfl,hI2,-⟩
 have HI2:=Lh hI2
 have y2:w0.heap.size≤w2.heap.size:=hI2.1.size
 clear hI2
 go_wp2_with fail
 have e0:Hid ((0,gask V 21 (gask V 13 ⟨[],0,0,false⟩))=giter V 0):=rfl
 generalize gask V 21 (gask V 13 ⟨[],0,0,false⟩)=s2 at *
 obtain ⟨g1,hg1⟩:∃ k,k=w2.heap.size:=⟨_,rfl⟩
 obtain ⟨g2,hg2⟩:∃ k,k=g1+1:=⟨_,rfl⟩
 have hB1:w0.heap.size≤g1:=by omega
 have hB2:w0.heap.size≤g2:=by omega
 have hne:g1≠g2:=by omega
 have hne':g2≠g1:=by omega
 go_loopw [5,6,7,8] (fun ta tb tx ty wr=>∃ (j:Nat) (a b x y:Int) (s:GS),ta = .int .i64 a∧tb = .int .i64 b∧tx = .int .i64 x∧ty = .int .i64 y∧j≤6∧(a,s)=giter V j∧b=a+gD j∧x=a+gX j∧y=a+gY j ∧
  RZ w0 g E F S O s wr∧Blk wr g1 #[.int .i64 (V x).1,.bool (V x).2] 148∧Blk wr g2 #[.int .i64 (V y).1,.bool (V y).2] 148) (fun ta tb _ _ _=>(intOf tb-intOf ta).toNat)
 case atStart =>
  exact ⟨0,0,34,13,21,s2,rfl,rfl,rfl,rfl,by omega,e0.out,by decide,by decide,by decide,(HI2.out.alloc _).alloc _,by rw [hg1];exact (Blk.new w2 _ _).alloc _,Blk.new' _ _ _ (by simp [hg2,hg1])⟩
 case round =>
  obtain ⟨j,a,b,x,y,s,rfl,rfl,rfl,rfl,hj,hit,hb,hx,hy,hI,hG1,hG2⟩:=hrel
  rw [← hg1,← hg2]
  clear e0 HI2 HI1 HI0
  clear hg1 hg2 y2
  have hro:=(giter_ok V j hj).1
  have hno:=(giter_ok V j hj).2.1
  have hls:s.asked.length≤7:=by
   have h:=(giter_ok V j hj).2.2
   rw [← hit] at h
   simp only at h
   split at h <;> omega
  rw [← hit] at hro hno
  simp only at hro hno
  obtain ⟨y1,c1,f1,-,-,r1⟩:=hG1.facts
  obtain ⟨y2,c2,f2,-,-,r2⟩:=hG2.facts
  have HI:=Lh hI
  have HG1:=Lh hG1
  have HG2:=Lh hG2
  clear hI hG1 hG2
  by_cases h6:j=6
  ·have hd:wrap64 (b-a)=2:=by subst h6;simp only [gD] at hb;rw [hb];unfold wrap64;omega
   have hfin:Hid (s=gfin V):=show s=gfin V from by subst h6;unfold gfin;rw [← hit]
   clear hb hx hy hit hro y1 c1 f1 r1 y2 c2 f2 r2
   obtain ⟨-,-,v,hG,-⟩:=HI.out
   obtain ⟨y0,c0,f0,-,-,-⟩:=hG.facts
   unfold zcells at c0
   obtain ⟨sw,hsw⟩:∃ k,k=s.w:=⟨_,rfl⟩
   obtain ⟨sn,hsn⟩:∃ k,k=s.n:=⟨_,rfl⟩
   obtain ⟨so,hso⟩:∃ k,k=s.ok:=⟨_,rfl⟩
   simp only [← hsw,← hsn,← hso] at c0 hno
   have HN:=Lh hno
   have HWN:Hid (sw=(gfin V).w∧sn=(gfin V).n∧so=(gfin V).ok):=show sw=_∧sn=_∧so=_ from by rw [← hfin.out];exact ⟨hsw,hsn,hso⟩
   clear hno hG hsw hsn hso
   cases so
   ·go_wp2_with fail
    go_ret3
    refine ⟨?_,by rw [← hfin.out];exact HI.out⟩
    have h1:=HWN.out
    have h2:=HN.out (by first|rfl|trivial)
    rw [← h1.1,← h1.2.1,← h1.2.2,h2.1,h2.2]
    rfl
   ·go_wp2_with fail
    go_region
    all_goals go_wp2_with fail
    all_goals go_ret3
    all_goals (refine ⟨?_,by rw [← hfin.out];exact HI.out.drew⟩;have h1:=HWN.out;rw [← h1.1,← h1.2.1,← h1.2.2];rfl)
  ·have hgx:=gXY j (by omega)
   obtain ⟨D,hD⟩:∃ D,D=gD j:=⟨_,rfl⟩
   have hd:wrap64 (b-a)=D:=by rw [hb,hD];unfold wrap64;omega
   have hd2:2<D:=by omega
   cases hgm:gm (V x) (V y)
   ·have hm:Hid (gm ((V x).1,(V x).2) ((V y).1,(V y).2)=false):=hgm
    obtain ⟨z,hz⟩:∃ z,z=x+b-y:=⟨_,rfl⟩
    have e1:wrap64 (x+b)=x+b:=by unfold wrap64;omega
    have e2:wrap64 (x+b-y)=z:=by rw [hz];unfold wrap64;omega
    have hstep:=Lh (step_right V j a s hit (by rw [← hx,← hy];exact hgm))
    have HZ2:Hid (z=x+gY (j+1)):=show z=x+gY (j+1) from by omega
    have HR:Hid (0≤z∧z≤34):=show 0≤z∧z≤34 from by have:=HZ2.out;omega
    by_cases h5:j=5
    ·have hzy:z=y:=by subst h5;have h1:=HZ2.out;simp only [gX,gY,gD] at *;omega
     rw [hzy] at e2 HZ2
     clear hzy
     have HX:=Lh hx
     have HY:=Lh hy
     have HB:=Lh hb
     replace hgx:=Lh hgx
     clear hgm hit hx hy hb hz hro hno hD
     go_wp2_with fail
     refine (atMost_c _ _ _ _ _).mono ?_;rintro e w4 ⟨rfl,hb4⟩;rw [hm.out]
     have HI:=Lh (HI.out.below hb4)
     have HG1:=Lh (HG1.out.keep hb4)
     have HG2:=Lh (HG2.out.keep hb4)
     clear c1 f1 r1 c2 f2 r2 y1 y2 hb4
     obtain ⟨y1,c1,f1,-,-,r1⟩:=HG1.out.facts
     obtain ⟨y2,c2,f2,-,-,r2⟩:=HG2.out.facts
     go_wp2_with fail
     go_region
     all_goals go_wp2_with fail
     all_goals focus
      simp only [e2]
      go_roundw
      case rel=>exact ⟨j+1,x,b,y,y,s,rfl,rfl,rfl,rfl,by omega,by rw [hstep.out];unfold gright;rw [if_pos h5,← HX.out],by have:=HX.out;have:=HY.out;have:=HB.out;have:=hgx.out;have:=HZ2.out;omega,by have:=HX.out;have:=HY.out;have:=HB.out;have:=hgx.out;have:=HZ2.out;omega,by have:=HX.out;have:=HY.out;have:=HB.out;have:=hgx.out;have:=HZ2.out;omega,(by first|exact RZ.set2 HI.out HG1.out (by decide) (by omega) _ _ _ _|exact RZ.drew (RZ.set2 HI.out HG1.out (by decide) (by omega) _ _ _ _)|exact RZ.set2 HI.out.drew HG1.out (by decide) (by omega) _ _ _ _),(by apply Blk.of_eq;(focus (repeat (first|with_reducible exact HG1.out|with_reducible apply Blk.alloc|with_reducible apply Blk.drew|with_reducible apply Blk.setCell_same (b:=g1)|(with_reducible apply Blk.setCell_other;case hne=>(first|omega|(simp;done)|(simp;omega)))))); (focus (first|rfl|(simp;done)))),(by apply Blk.of_eq;(focus (repeat (first|with_reducible exact HG2.out|with_reducible apply Blk.alloc|with_reducible apply Blk.drew|with_reducible apply Blk.setCell_same (b:=g2)|(with_reducible apply Blk.setCell_other;case hne=>(first|omega|(simp;done)|(simp;omega)))))); (focus (first|rfl|(simp;done))))⟩
      case measure =>
       have h1:=HX.out;have h2:=HY.out;have h3:=HB.out;have h4:=hgx.out;have h5':=HZ2.out
       simp [intOf];omega
    · have hzy : ¬ z = y := by
        have:gX (j+1)<gY (j+1):=(gXY (j+1) (by omega)).2.2.2.2.2.2.1
        have:=HZ2.out
        omega
      have HX:=Lh hx
      have HY:=Lh hy
      have HB:=Lh hb
      replace hgx:=Lh hgx
      clear hgm hit hx hy hb hz hro hno hD
      go_wp2_with fail
      refine (atMost_c _ _ _ _ _).mono ?_;rintro e w4 ⟨rfl,hb4⟩;rw [hm.out]
      have HI:=Lh (HI.out.below hb4)
      have HG1:=Lh (HG1.out.keep hb4)
      have HG2:=Lh (HG2.out.keep hb4)
      clear c1 f1 r1 c2 f2 r2 y1 y2 hb4
      obtain ⟨y1,c1,f1,-,-,r1⟩:=HG1.out.facts
      obtain ⟨y2,c2,f2,-,-,r2⟩:=HG2.out.facts
      go_wp2_with fail
      go_region
      all_goals go_wp2_with fail
      all_goals focus
       refine (R s z _ hls HR.out.1 HR.out.2 (by first|exact (RZ.drew (RZ.set2 HI.out HG1.out (by decide) (by omega) _ _ _ _))|exact RZ.set2 HI.out.drew HG1.out (by decide) (by omega) _ _ _ _)).out.mono ?_
       rintro e w3 ⟨rfl,hI3,k27⟩
       have HI3:=Lh hI3
       have HG1b:=Lh (k27.2 g1 #[.int .i64 (V y).1,.bool (V y).2] (by apply Blk.of_eq;(focus (repeat (first|with_reducible exact HG1.out|with_reducible apply Blk.alloc|with_reducible apply Blk.drew|with_reducible apply Blk.setCell_same (b:=g1)|(with_reducible apply Blk.setCell_other;case hne=>(first|omega|(simp;done)|(simp;omega)))))); (focus (first|rfl|(simp;done)))))
       have HG2b:=Lh (k27.2 g2 #[.int .i64 (V y).1,.bool (V y).2] (by apply Blk.of_eq;(focus (repeat (first|with_reducible exact HG2.out|with_reducible apply Blk.alloc|with_reducible apply Blk.drew|with_reducible apply Blk.setCell_same (b:=g2)|(with_reducible apply Blk.setCell_other;case hne=>(first|omega|(simp;done)|(simp;omega)))))); (focus (first|rfl|(simp;done)))))
       have HZ3:=k27.1
       simp at HZ3
       clear hI3 k27
       obtain ⟨y3,c3,f3,-,-,r3⟩:=HG1b.out.facts
       obtain ⟨y4,c4,f4,-,-,r4⟩:=HG2b.out.facts
       go_wp2_with fail
       go_roundw
       case rel=>exact ⟨j+1,x,b,y,z,gask V z s,rfl,rfl,rfl,rfl,by omega,by rw [hstep.out];unfold gright;rw [if_neg h5,← HX.out,← HZ2.out],by have:=HX.out;have:=HY.out;have:=HB.out;have:=hgx.out;have:=HZ2.out;omega,by have:=HX.out;have:=HY.out;have:=HB.out;have:=hgx.out;have:=HZ2.out;omega,by have:=HX.out;have:=HY.out;have:=HB.out;have:=hgx.out;have:=HZ2.out;omega,(by first|exact RZ.set2 HI3.out HG2b.out (by decide) (by omega) _ _ _ _|exact RZ.drew (RZ.set2 HI3.out HG2b.out (by decide) (by omega) _ _ _ _)|exact RZ.set2 HI3.out.drew HG2b.out (by decide) (by omega) _ _ _ _),(by apply Blk.of_eq;(focus (repeat (first|with_reducible exact HG1b.out|with_reducible apply Blk.alloc|with_reducible apply Blk.drew|with_reducible apply Blk.setCell_same (b:=g1)|(with_reducible apply Blk.setCell_other;case hne=>(first|omega|(simp;done)|(simp;omega)))))); (focus (first|rfl|(simp;done)))),(by apply Blk.of_eq;(focus (repeat (first|with_reducible exact HG2b.out|with_reducible apply Blk.alloc|with_reducible apply Blk.drew|with_reducible apply Blk.setCell_same (b:=g2)|(with_reducible apply Blk.setCell_other;case hne=>(first|omega|(simp;done)|(simp;omega)))))); (focus (first|rfl|(simp;done))))⟩
       case measure =>
        have h1:=HX.out;have h2:=HY.out;have h3:=HB.out;have h4:=hgx.out;have h5':=HZ2.out
        simp [intOf];omega
   ·have hm:Hid (gm ((V x).1,(V x).2) ((V y).1,(V y).2)=true):=hgm
    obtain ⟨z,hz⟩:∃ z,z=a+y-x:=⟨_,rfl⟩
    have e1:wrap64 (a+y)=a+y:=by unfold wrap64;omega
    have e2:wrap64 (a+y-x)=z:=by rw [hz];unfold wrap64;omega
    have hstep:=Lh (step_left V j a s hit (by rw [← hx,← hy];exact hgm))
    have HZ2:Hid (z=a+gX (j+1)):=show z=a+gX (j+1) from by omega
    have HR:Hid (0≤z∧z≤34):=show 0≤z∧z≤34 from by have:=HZ2.out;omega
    by_cases h5:j=5
    ·have hzy:z=x:=by subst h5;have h1:=HZ2.out;simp only [gX,gY,gD] at *;omega
     rw [hzy] at e2 HZ2
     clear hzy
     have HX:=Lh hx
     have HY:=Lh hy
     have HB:=Lh hb
     replace hgx:=Lh hgx
     clear hgm hit hx hy hb hz hro hno hD
     go_wp2_with fail
     refine (atMost_c _ _ _ _ _).mono ?_;rintro e w4 ⟨rfl,hb4⟩;rw [hm.out]
     have HI:=Lh (HI.out.below hb4)
     have HG1:=Lh (HG1.out.keep hb4)
     have HG2:=Lh (HG2.out.keep hb4)
     clear c1 f1 r1 c2 f2 r2 y1 y2 hb4
     obtain ⟨y1,c1,f1,-,-,r1⟩:=HG1.out.facts
     obtain ⟨y2,c2,f2,-,-,r2⟩:=HG2.out.facts
     go_wp2_with fail
     go_region
     all_goals go_wp2_with fail
     all_goals focus
      simp only [e2]
      go_roundw
      case rel=>exact ⟨j+1,a,y,x,x,s,rfl,rfl,rfl,rfl,by omega,by rw [hstep.out];unfold gleft;rw [if_pos h5],by have:=HX.out;have:=HY.out;have:=HB.out;have:=hgx.out;have:=HZ2.out;omega,by have:=HX.out;have:=HY.out;have:=HB.out;have:=hgx.out;have:=HZ2.out;omega,by have:=HX.out;have:=HY.out;have:=HB.out;have:=hgx.out;have:=HZ2.out;omega,(by first|exact RZ.set2 HI.out HG2.out (by decide) (by omega) _ _ _ _|exact RZ.drew (RZ.set2 HI.out HG2.out (by decide) (by omega) _ _ _ _)|exact RZ.set2 HI.out.drew HG2.out (by decide) (by omega) _ _ _ _),(by apply Blk.of_eq;(focus (repeat (first|with_reducible exact HG1.out|with_reducible apply Blk.alloc|with_reducible apply Blk.drew|with_reducible apply Blk.setCell_same (b:=g1)|(with_reducible apply Blk.setCell_other;case hne=>(first|omega|(simp;done)|(simp;omega)))))); (focus (first|rfl|(simp;done)))),(by apply Blk.of_eq;(focus (repeat (first|with_reducible exact HG2.out|with_reducible apply Blk.alloc|with_reducible apply Blk.drew|with_reducible apply Blk.setCell_same (b:=g2)|(with_reducible apply Blk.setCell_other;case hne=>(first|omega|(simp;done)|(simp;omega)))))); (focus (first|rfl|(simp;done))))⟩
      case measure =>
       have h1:=HX.out;have h2:=HY.out;have h3:=HB.out;have h4:=hgx.out;have h5':=HZ2.out
       simp [intOf];omega
    · have hzy : ¬ z = x := by
        have:gX (j+1)<gY (j+1):=(gXY (j+1) (by omega)).2.2.2.2.2.2.1
        have:=HZ2.out
        omega
      have HX:=Lh hx
      have HY:=Lh hy
      have HB:=Lh hb
      replace hgx:=Lh hgx
      clear hgm hit hx hy hb hz hro hno hD
      go_wp2_with fail
      refine (atMost_c _ _ _ _ _).mono ?_;rintro e w4 ⟨rfl,hb4⟩;rw [hm.out]
      have HI:=Lh (HI.out.below hb4)
      have HG1:=Lh (HG1.out.keep hb4)
      have HG2:=Lh (HG2.out.keep hb4)
      clear c1 f1 r1 c2 f2 r2 y1 y2 hb4
      obtain ⟨y1,c1,f1,-,-,r1⟩:=HG1.out.facts
      obtain ⟨y2,c2,f2,-,-,r2⟩:=HG2.out.facts
      go_wp2_with fail
      go_region
      all_goals go_wp2_with fail
      all_goals focus
       refine (R s z _ hls HR.out.1 HR.out.2 (by first|exact (RZ.drew (RZ.set2 HI.out HG2.out (by decide) (by omega) _ _ _ _))|exact RZ.set2 HI.out.drew HG2.out (by decide) (by omega) _ _ _ _)).out.mono ?_
       rintro e w3 ⟨rfl,hI3,k27⟩
       have HI3:=Lh hI3
       have HG1b:=Lh (k27.2 g1 #[.int .i64 (V x).1,.bool (V x).2] (by apply Blk.of_eq;(focus (repeat (first|with_reducible exact HG1.out|with_reducible apply Blk.alloc|with_reducible apply Blk.drew|with_reducible apply Blk.setCell_same (b:=g1)|(with_reducible apply Blk.setCell_other;case hne=>(first|omega|(simp;done)|(simp;omega)))))); (focus (first|rfl|(simp;done)))))
       have HG2b:=Lh (k27.2 g2 #[.int .i64 (V x).1,.bool (V x).2] (by apply Blk.of_eq;(focus (repeat (first|with_reducible exact HG2.out|with_reducible apply Blk.alloc|with_reducible apply Blk.drew|with_reducible apply Blk.setCell_same (b:=g2)|(with_reducible apply Blk.setCell_other;case hne=>(first|omega|(simp;done)|(simp;omega)))))); (focus (first|rfl|(simp;done)))))
       have HZ3:=k27.1
       simp at HZ3
       clear hI3 k27
       obtain ⟨y3,c3,f3,-,-,r3⟩:=HG1b.out.facts
       obtain ⟨y4,c4,f4,-,-,r4⟩:=HG2b.out.facts
       go_wp2_with fail
       go_roundw
       case rel=>exact ⟨j+1,a,y,z,x,gask V z s,rfl,rfl,rfl,rfl,by omega,by rw [hstep.out];unfold gleft;rw [if_neg h5,← HZ2.out],by have:=HX.out;have:=HY.out;have:=HB.out;have:=hgx.out;have:=HZ2.out;omega,by have:=HX.out;have:=HY.out;have:=HB.out;have:=hgx.out;have:=HZ2.out;omega,by have:=HX.out;have:=HY.out;have:=HB.out;have:=hgx.out;have:=HZ2.out;omega,(by first|exact RZ.set2 HI3.out HG1b.out (by decide) (by omega) _ _ _ _|exact RZ.drew (RZ.set2 HI3.out HG1b.out (by decide) (by omega) _ _ _ _)|exact RZ.set2 HI3.out.drew HG1b.out (by decide) (by omega) _ _ _ _),(by apply Blk.of_eq;(focus (repeat (first|with_reducible exact HG1b.out|with_reducible apply Blk.alloc|with_reducible apply Blk.drew|with_reducible apply Blk.setCell_same (b:=g1)|(with_reducible apply Blk.setCell_other;case hne=>(first|omega|(simp;done)|(simp;omega)))))); (focus (first|rfl|(simp;done)))),(by apply Blk.of_eq;(focus (repeat (first|with_reducible exact HG2b.out|with_reducible apply Blk.alloc|with_reducible apply Blk.drew|with_reducible apply Blk.setCell_same (b:=g2)|(with_reducible apply Blk.setCell_other;case hne=>(first|omega|(simp;done)|(simp;omega)))))); (focus (first|rfl|(simp;done))))⟩
       case measure =>
        have h1:=HX.out;have h2:=HY.out;have h3:=HB.out;have h4:=hgx.out;have h5':=HZ2.out
        simp [intOf];omega
end Go.Proofs.YtilginoibhfeiaaGreat
