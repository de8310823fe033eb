/- Laws and walks that the claim names. -/
import Derived.Test.YtnoidlacjiafdaaGreatZ1
import Derived.Lib.QuietBelow
namespace Go.Proofs.YtnoidlacjiafdaaGreat
set_option maxRecDepth 100000
set_option maxHeartbeats 16000000
set_option linter.unusedSimpArgs false
set_option linter.unusedVariables false
open Go.RowKit
section
variable {w0 w w':World} {g:Nat} {E F S:Value} {O:Int→El × Int} {s:GS}
theorem RZ.drew (h:RZ w0 g E F S O s w):RZ w0 g E F S O s w.drew:=⟨h.1.drew,h.2⟩
theorem RZ.alloc (h:RZ w0 g E F S O s w) (o:Obj):RZ w0 g E F S O s (w.alloc o):=by
 obtain⟨h1,h2,v,h3,h4⟩:=h;exact⟨h1.alloc h1.size o,h2,v,h3.alloc o,h4.alloc o⟩
theorem RZ.below (h:RZ w0 g E F S O s w) (hb:Below w.heap.size w w'):RZ w0 g E F S O s w':=by
 obtain⟨h1,h2,v,h3,h4⟩:=h;exact⟨h1.trans (hb.mono h1.size),h2,v,h3.keep hb,bJ h4 hb⟩
theorem RZ.setCell {t:TypeId} {g1:Nat} {cs:Array Value} (h:RZ w0 g E F S O s w) (hb:Blk w g1 cs t) (ht:t≠121∧t≠3) (hg:w0.heap.size≤g1) (i:Nat) (u:Value):RZ w0 g E F S O s (w.setCell ⟨g1,i,none⟩ u):=by
 obtain⟨h1,h2,v,h3,h4⟩:=h;exact⟨h1.setCell hg _,h2,v,h3.ac (Ne.symm (Blk.ne hb h3 ht.1)) _,ownsRow_setCell_other h4 (iC h4 hb (Ne.symm ht.2)) _⟩
theorem RZ.set2 {t:TypeId} {g1:Nat} {cs:Array Value} (h:RZ w0 g E F S O s w) (hb:Blk w g1 cs t) (ht:t≠121∧t≠3) (hg:w0.heap.size≤g1) (i j:Nat) (u u':Value):RZ w0 g E F S O s ((w.setCell ⟨g1,i,none⟩ u).setCell ⟨g1,j,none⟩ u') :=
 (h.setCell hb ht hg i u).setCell (hb.ab i u) ht hg j u'
end
theorem tJ (w0:World) (g:Nat) (E F S:Value) (O:Int→El × Int) (w:World)
  (R0:∀ (s:GS) (x:Int) (w:World),s.asked.length≤7→0≤x→x≤34→RZ w0 g E F S O s w→Calls Tryz.prog 135 #[.pointer (some ⟨g,0,none⟩),.int .i64 x] w fun e w'=>e = .returned (.agg #[.int .i64 (ovV O x).1,.bool (ovV O x).2])∧RZ w0 g E F S O (gask (ovV O) x s) w'∧aX 119 w w')
  (h:RZ w0 g E F S O ⟨[],0,0,false⟩ w) :
  Calls Tryz.prog 92 #[.pointer (some ⟨g,0,none⟩)] w fun e w'=>e = .returned (.tuple #[.int .i64 (gfin (ovV O)).w,.int .i64 (gfin (ovV O)).n,.bool (gfin (ovV O)).ok])∧RZ w0 g E F S O (gfin (ovV O)) w':=by
 obtain⟨V,hV⟩:∃ V,V=ovV O:=⟨_,rfl⟩;rw[← hV];have R:=fun s x w h1 h2 h3 h4=>Lh (R0 s x w h1 h2 h3 h4);clear R0;rw[← hV] at R;clear hV;have HI0:=Lh h;clear h;go_enter Tryz.func92,Tryz.ntmps92;go_wp2_with fail;refine(R ⟨[],0,0,false⟩ 13 _ (by decide) (by decide) (by decide) HI0.out).out.mono ?_;rintro e w1 ⟨rfl,hI1,-⟩;have HI1:=Lh hI1;clear hI1;go_wp2_with fail;refine(R (gask V 13 ⟨[],0,0,false⟩) 21 _ (by rw[bf];decide) (by decide) (by decide) HI1.out).out.mono ?_;rintro e w2 ⟨rfl,hI2,-⟩;have HI2:=Lh hI2;have y2:w0.heap.size≤w2.heap.size:=hI2.1.size;clear hI2;go_wp2_with fail;have e0:Hid ((0,gask V 21 (gask V 13 ⟨[],0,0,false⟩))=giter V 0):=rfl;generalize gask V 21 (gask V 13 ⟨[],0,0,false⟩)=s2 at *;obtain⟨g1,hg1⟩:∃ k,k=w2.heap.size:=⟨_,rfl⟩;obtain⟨g2,hg2⟩:∃ k,k=g1+1:=⟨_,rfl⟩;have hB1:w0.heap.size≤g1:=by omega
 have hB2:w0.heap.size≤g2:=by omega
 have hne:g1≠g2:=by omega
 have hne':g2≠g1:=by omega
 go_loopw [5,6,7,8] (fun ta tb tx ty wr=>∃ (j:Nat) (a b x y:Int) (s:GS),ta = .int .i64 a∧tb = .int .i64 b∧tx = .int .i64 x∧ty = .int .i64 y∧j≤6∧(a,s)=giter V j∧b=a+gD j∧x=a+gX j∧y=a+gY j ∧
  RZ w0 g E F S O s wr∧Blk wr g1 #[.int .i64 (V x).1,.bool (V x).2] 119∧Blk wr g2 #[.int .i64 (V y).1,.bool (V y).2] 119) (fun ta tb _ _ _=>(intOf tb-intOf ta).toNat)
 case atStart =>
  exact⟨0,0,34,13,21,s2,rfl,rfl,rfl,rfl,by omega,e0.out,by decide,by decide,by decide,(HI2.out.alloc _).alloc _,by rw[hg1];exact(Blk.new w2 _ _).alloc _,Blk.new' _ _ _ (by simp[hg2,hg1])⟩
 case round =>
  obtain⟨j,a,b,x,y,s,rfl,rfl,rfl,rfl,hj,hit,hb,hx,hy,hI,hG1,hG2⟩:=hrel;rw[← hg1,← hg2];clear e0 HI2 HI1 HI0;clear hg1 hg2 y2;have hro:=(fD V j hj).1;have hno:=(fD V j hj).2.1
  have hls:s.asked.length≤7:=by
   have h:=(fD V j hj).2.2;rw[← hit] at h;simp only at h;split at h <;> omega
  rw[← hit] at hro hno;simp only at hro hno;obtain⟨y1,c1,f1,-,-,r1⟩:=hG1.facts;obtain⟨y2,c2,f2,-,-,r2⟩:=hG2.facts;have HI:=Lh hI;have HG1:=Lh hG1;have HG2:=Lh hG2;clear hI hG1 hG2;by_cases h6:j=6
  ·have hd:wrap64 (b-a)=2:=by subst h6;simp only[gD] at hb;rw[hb];unfold wrap64;omega
   have hfin:Hid (s=gfin V):=show s=gfin V from by subst h6;unfold gfin;rw[← hit]
   clear hb hx hy hit hro y1 c1 f1 r1 y2 c2 f2 r2;obtain⟨-,-,v,hG,-⟩:=HI.out;obtain⟨y0,c0,f0,-,-,-⟩:=hG.facts;unfold dK at c0;obtain⟨sw,hsw⟩:∃ k,k=s.w:=⟨_,rfl⟩;obtain⟨sn,hsn⟩:∃ k,k=s.n:=⟨_,rfl⟩;obtain⟨so,hso⟩:∃ k,k=s.ok:=⟨_,rfl⟩;simp only[← hsw,← hsn,← hso] at c0 hno;have HN:=Lh hno;have HWN:Hid (sw=(gfin V).w∧sn=(gfin V).n∧so=(gfin V).ok):=show sw=_∧sn=_∧so=_ from by rw[← hfin.out];exact⟨hsw,hsn,hso⟩
   clear hno hG hsw hsn hso;cases so
   ·go_wp2_with fail;go_ret3
    refine⟨?_,by rw[← hfin.out];exact HI.out⟩;have h1:=HWN.out;have h2:=HN.out (by first|rfl|trivial);rw[← h1.1,← h1.2.1,← h1.2.2,h2.1,h2.2];rfl
   ·go_wp2_with fail;go_region
    all_goals go_wp2_with fail
    all_goals go_ret3
    all_goals (refine⟨?_,by rw[← hfin.out];exact HI.out.drew⟩;have h1:=HWN.out;rw[← h1.1,← h1.2.1,← h1.2.2];rfl)
  ·have hgx:=gXY j (by omega);obtain⟨D,hD⟩:∃ D,D=gD j:=⟨_,rfl⟩;have hd:wrap64 (b-a)=D:=by rw[hb,hD];unfold wrap64;omega
   have hd2:2<D:=by omega
   cases hgm:gm (V x) (V y)
   ·have hm:Hid (gm ((V x).1,(V x).2) ((V y).1,(V y).2)=false):=hgm;obtain⟨z,hz⟩:∃ z,z=x+b-y:=⟨_,rfl⟩;have e1:wrap64 (x+b)=x+b:=by unfold wrap64;omega
    have e2:wrap64 (x+b-y)=z:=by rw[hz];unfold wrap64;omega
    have hstep:=Lh (lP V j a s hit (by rw[← hx,← hy];exact hgm));have HZ2:Hid (z=x+gY (j+1)):=show z=x+gY (j+1) from by omega
    have HR:Hid (0≤z∧z≤34):=show 0≤z∧z≤34 from by have:=HZ2.out;omega
    by_cases h5:j=5
    ·have hzy:z=y:=by subst h5;have h1:=HZ2.out;simp only[gX,gY,gD] at *;omega
     rw[hzy] at e2 HZ2;clear hzy;have HX:=Lh hx;have HY:=Lh hy;have HB:=Lh hb;replace hgx:=Lh hgx;clear hgm hit hx hy hb hz hro hno hD;go_wp2_with fail;refine(jt _ _ _ _ _).mono ?_;rintro e w4 ⟨rfl,hb4⟩;rw[hm.out];have HI:=Lh (HI.out.below hb4);have HG1:=Lh (HG1.out.keep hb4);have HG2:=Lh (HG2.out.keep hb4);clear c1 f1 r1 c2 f2 r2 y1 y2 hb4;obtain⟨y1,c1,f1,-,-,r1⟩:=HG1.out.facts;obtain⟨y2,c2,f2,-,-,r2⟩:=HG2.out.facts;go_wp2_with fail;go_region
     all_goals go_wp2_with fail
     all_goals focus
      simp only[e2];go_roundw
      case rel=>exact⟨j+1,x,b,y,y,s,rfl,rfl,rfl,rfl,by omega,by rw[hstep.out];unfold gp;rw[if_pos h5,← HX.out],by have:=HX.out;have:=HY.out;have:=HB.out;have:=hgx.out;have:=HZ2.out;omega,by have:=HX.out;have:=HY.out;have:=HB.out;have:=hgx.out;have:=HZ2.out;omega,by have:=HX.out;have:=HY.out;have:=HB.out;have:=hgx.out;have:=HZ2.out;omega,(by first|exact RZ.set2 HI.out HG1.out (by decide) (by omega) _ _ _ _|exact RZ.drew (RZ.set2 HI.out HG1.out (by decide) (by omega) _ _ _ _)|exact RZ.set2 HI.out.drew HG1.out (by decide) (by omega) _ _ _ _),(by apply Blk.of_eq;(focus (repeat (first|with_reducible exact HG1.out|with_reducible apply Blk.alloc|with_reducible apply Blk.drew|with_reducible apply Blk.ab (b:=g1)|(with_reducible apply Blk.ac;case hne=>(first|omega|(simp;done)|(simp;omega)))))); (focus (first|rfl|(simp;done)))),(by apply Blk.of_eq;(focus (repeat (first|with_reducible exact HG2.out|with_reducible apply Blk.alloc|with_reducible apply Blk.drew|with_reducible apply Blk.ab (b:=g2)|(with_reducible apply Blk.ac;case hne=>(first|omega|(simp;done)|(simp;omega)))))); (focus (first|rfl|(simp;done))))⟩
      case measure =>
       have h1:=HX.out;have h2:=HY.out;have h3:=HB.out;have h4:=hgx.out;have h5':=HZ2.out;simp[intOf];omega
    · have hzy : ¬ z = y := by
        have:gX (j+1)<gY (j+1):=(gXY (j+1) (by omega)).2.2.2.2.2.2.1;have:=HZ2.out;omega
      have HX:=Lh hx;have HY:=Lh hy;have HB:=Lh hb;replace hgx:=Lh hgx;clear hgm hit hx hy hb hz hro hno hD;go_wp2_with fail;refine(jt _ _ _ _ _).mono ?_;rintro e w4 ⟨rfl,hb4⟩;rw[hm.out];have HI:=Lh (HI.out.below hb4);have HG1:=Lh (HG1.out.keep hb4);have HG2:=Lh (HG2.out.keep hb4);clear c1 f1 r1 c2 f2 r2 y1 y2 hb4;obtain⟨y1,c1,f1,-,-,r1⟩:=HG1.out.facts;obtain⟨y2,c2,f2,-,-,r2⟩:=HG2.out.facts;go_wp2_with fail;go_region
      all_goals go_wp2_with fail
      all_goals focus
       refine(R s z _ hls HR.out.1 HR.out.2 (by first|exact(RZ.drew (RZ.set2 HI.out HG1.out (by decide) (by omega) _ _ _ _))|exact RZ.set2 HI.out.drew HG1.out (by decide) (by omega) _ _ _ _)).out.mono ?_;rintro e w3 ⟨rfl,hI3,k27⟩;have HI3:=Lh hI3;have HG1b:=Lh (k27.2 g1 #[.int .i64 (V y).1,.bool (V y).2] (by apply Blk.of_eq;(focus (repeat (first|with_reducible exact HG1.out|with_reducible apply Blk.alloc|with_reducible apply Blk.drew|with_reducible apply Blk.ab (b:=g1)|(with_reducible apply Blk.ac;case hne=>(first|omega|(simp;done)|(simp;omega)))))); (focus (first|rfl|(simp;done)))));have HG2b:=Lh (k27.2 g2 #[.int .i64 (V y).1,.bool (V y).2] (by apply Blk.of_eq;(focus (repeat (first|with_reducible exact HG2.out|with_reducible apply Blk.alloc|with_reducible apply Blk.drew|with_reducible apply Blk.ab (b:=g2)|(with_reducible apply Blk.ac;case hne=>(first|omega|(simp;done)|(simp;omega)))))); (focus (first|rfl|(simp;done)))));have HZ3:=k27.1;simp at HZ3;clear hI3 k27;obtain⟨y3,c3,f3,-,-,r3⟩:=HG1b.out.facts;obtain⟨y4,c4,f4,-,-,r4⟩:=HG2b.out.facts;go_wp2_with fail;go_roundw
       case rel=>exact⟨j+1,x,b,y,z,gask V z s,rfl,rfl,rfl,rfl,by omega,by rw[hstep.out];unfold gp;rw[if_neg h5,← HX.out,← HZ2.out],by have:=HX.out;have:=HY.out;have:=HB.out;have:=hgx.out;have:=HZ2.out;omega,by have:=HX.out;have:=HY.out;have:=HB.out;have:=hgx.out;have:=HZ2.out;omega,by have:=HX.out;have:=HY.out;have:=HB.out;have:=hgx.out;have:=HZ2.out;omega,(by first|exact RZ.set2 HI3.out HG2b.out (by decide) (by omega) _ _ _ _|exact RZ.drew (RZ.set2 HI3.out HG2b.out (by decide) (by omega) _ _ _ _)|exact RZ.set2 HI3.out.drew HG2b.out (by decide) (by omega) _ _ _ _),(by apply Blk.of_eq;(focus (repeat (first|with_reducible exact HG1b.out|with_reducible apply Blk.alloc|with_reducible apply Blk.drew|with_reducible apply Blk.ab (b:=g1)|(with_reducible apply Blk.ac;case hne=>(first|omega|(simp;done)|(simp;omega)))))); (focus (first|rfl|(simp;done)))),(by apply Blk.of_eq;(focus (repeat (first|with_reducible exact HG2b.out|with_reducible apply Blk.alloc|with_reducible apply Blk.drew|with_reducible apply Blk.ab (b:=g2)|(with_reducible apply Blk.ac;case hne=>(first|omega|(simp;done)|(simp;omega)))))); (focus (first|rfl|(simp;done))))⟩
       case measure =>
        have h1:=HX.out;have h2:=HY.out;have h3:=HB.out;have h4:=hgx.out;have h5':=HZ2.out;simp[intOf];omega
   ·have hm:Hid (gm ((V x).1,(V x).2) ((V y).1,(V y).2)=true):=hgm;obtain⟨z,hz⟩:∃ z,z=a+y-x:=⟨_,rfl⟩;have e1:wrap64 (a+y)=a+y:=by unfold wrap64;omega
    have e2:wrap64 (a+y-x)=z:=by rw[hz];unfold wrap64;omega
    have hstep:=Lh (nB V j a s hit (by rw[← hx,← hy];exact hgm));have HZ2:Hid (z=a+gX (j+1)):=show z=a+gX (j+1) from by omega
    have HR:Hid (0≤z∧z≤34):=show 0≤z∧z≤34 from by have:=HZ2.out;omega
    by_cases h5:j=5
    ·have hzy:z=x:=by subst h5;have h1:=HZ2.out;simp only[gX,gY,gD] at *;omega
     rw[hzy] at e2 HZ2;clear hzy;have HX:=Lh hx;have HY:=Lh hy;have HB:=Lh hb;replace hgx:=Lh hgx;clear hgm hit hx hy hb hz hro hno hD;go_wp2_with fail;refine(jt _ _ _ _ _).mono ?_;rintro e w4 ⟨rfl,hb4⟩;rw[hm.out];have HI:=Lh (HI.out.below hb4);have HG1:=Lh (HG1.out.keep hb4);have HG2:=Lh (HG2.out.keep hb4);clear c1 f1 r1 c2 f2 r2 y1 y2 hb4;obtain⟨y1,c1,f1,-,-,r1⟩:=HG1.out.facts;obtain⟨y2,c2,f2,-,-,r2⟩:=HG2.out.facts;go_wp2_with fail;go_region
     all_goals go_wp2_with fail
     all_goals focus
      simp only[e2];go_roundw
      case rel=>exact⟨j+1,a,y,x,x,s,rfl,rfl,rfl,rfl,by omega,by rw[hstep.out];unfold kA;rw[if_pos h5],by have:=HX.out;have:=HY.out;have:=HB.out;have:=hgx.out;have:=HZ2.out;omega,by have:=HX.out;have:=HY.out;have:=HB.out;have:=hgx.out;have:=HZ2.out;omega,by have:=HX.out;have:=HY.out;have:=HB.out;have:=hgx.out;have:=HZ2.out;omega,(by first|exact RZ.set2 HI.out HG2.out (by decide) (by omega) _ _ _ _|exact RZ.drew (RZ.set2 HI.out HG2.out (by decide) (by omega) _ _ _ _)|exact RZ.set2 HI.out.drew HG2.out (by decide) (by omega) _ _ _ _),(by apply Blk.of_eq;(focus (repeat (first|with_reducible exact HG1.out|with_reducible apply Blk.alloc|with_reducible apply Blk.drew|with_reducible apply Blk.ab (b:=g1)|(with_reducible apply Blk.ac;case hne=>(first|omega|(simp;done)|(simp;omega)))))); (focus (first|rfl|(simp;done)))),(by apply Blk.of_eq;(focus (repeat (first|with_reducible exact HG2.out|with_reducible apply Blk.alloc|with_reducible apply Blk.drew|with_reducible apply Blk.ab (b:=g2)|(with_reducible apply Blk.ac;case hne=>(first|omega|(simp;done)|(simp;omega)))))); (focus (first|rfl|(simp;done))))⟩
      case measure =>
       have h1:=HX.out;have h2:=HY.out;have h3:=HB.out;have h4:=hgx.out;have h5':=HZ2.out;simp[intOf];omega
    · have hzy : ¬ z = x := by
        have:gX (j+1)<gY (j+1):=(gXY (j+1) (by omega)).2.2.2.2.2.2.1;have:=HZ2.out;omega
      have HX:=Lh hx;have HY:=Lh hy;have HB:=Lh hb;replace hgx:=Lh hgx;clear hgm hit hx hy hb hz hro hno hD;go_wp2_with fail;refine(jt _ _ _ _ _).mono ?_;rintro e w4 ⟨rfl,hb4⟩;rw[hm.out];have HI:=Lh (HI.out.below hb4);have HG1:=Lh (HG1.out.keep hb4);have HG2:=Lh (HG2.out.keep hb4);clear c1 f1 r1 c2 f2 r2 y1 y2 hb4;obtain⟨y1,c1,f1,-,-,r1⟩:=HG1.out.facts;obtain⟨y2,c2,f2,-,-,r2⟩:=HG2.out.facts;go_wp2_with fail;go_region
      all_goals go_wp2_with fail
      all_goals focus
       refine(R s z _ hls HR.out.1 HR.out.2 (by first|exact(RZ.drew (RZ.set2 HI.out HG2.out (by decide) (by omega) _ _ _ _))|exact RZ.set2 HI.out.drew HG2.out (by decide) (by omega) _ _ _ _)).out.mono ?_;rintro e w3 ⟨rfl,hI3,k27⟩;have HI3:=Lh hI3;have HG1b:=Lh (k27.2 g1 #[.int .i64 (V x).1,.bool (V x).2] (by apply Blk.of_eq;(focus (repeat (first|with_reducible exact HG1.out|with_reducible apply Blk.alloc|with_reducible apply Blk.drew|with_reducible apply Blk.ab (b:=g1)|(with_reducible apply Blk.ac;case hne=>(first|omega|(simp;done)|(simp;omega)))))); (focus (first|rfl|(simp;done)))));have HG2b:=Lh (k27.2 g2 #[.int .i64 (V x).1,.bool (V x).2] (by apply Blk.of_eq;(focus (repeat (first|with_reducible exact HG2.out|with_reducible apply Blk.alloc|with_reducible apply Blk.drew|with_reducible apply Blk.ab (b:=g2)|(with_reducible apply Blk.ac;case hne=>(first|omega|(simp;done)|(simp;omega)))))); (focus (first|rfl|(simp;done)))));have HZ3:=k27.1;simp at HZ3;clear hI3 k27;obtain⟨y3,c3,f3,-,-,r3⟩:=HG1b.out.facts;obtain⟨y4,c4,f4,-,-,r4⟩:=HG2b.out.facts;go_wp2_with fail;go_roundw
       case rel=>exact⟨j+1,a,y,z,x,gask V z s,rfl,rfl,rfl,rfl,by omega,by rw[hstep.out];unfold kA;rw[if_neg h5,← HZ2.out],by have:=HX.out;have:=HY.out;have:=HB.out;have:=hgx.out;have:=HZ2.out;omega,by have:=HX.out;have:=HY.out;have:=HB.out;have:=hgx.out;have:=HZ2.out;omega,by have:=HX.out;have:=HY.out;have:=HB.out;have:=hgx.out;have:=HZ2.out;omega,(by first|exact RZ.set2 HI3.out HG1b.out (by decide) (by omega) _ _ _ _|exact RZ.drew (RZ.set2 HI3.out HG1b.out (by decide) (by omega) _ _ _ _)|exact RZ.set2 HI3.out.drew HG1b.out (by decide) (by omega) _ _ _ _),(by apply Blk.of_eq;(focus (repeat (first|with_reducible exact HG1b.out|with_reducible apply Blk.alloc|with_reducible apply Blk.drew|with_reducible apply Blk.ab (b:=g1)|(with_reducible apply Blk.ac;case hne=>(first|omega|(simp;done)|(simp;omega)))))); (focus (first|rfl|(simp;done)))),(by apply Blk.of_eq;(focus (repeat (first|with_reducible exact HG2b.out|with_reducible apply Blk.alloc|with_reducible apply Blk.drew|with_reducible apply Blk.ab (b:=g2)|(with_reducible apply Blk.ac;case hne=>(first|omega|(simp;done)|(simp;omega)))))); (focus (first|rfl|(simp;done))))⟩
       case measure =>
        have h1:=HX.out;have h2:=HY.out;have h3:=HB.out;have h4:=hgx.out;have h5':=HZ2.out;simp[intOf];omega
def qB (O:Int→El × Int) (s:GS) (e:El):El:=if s.ok=true∧s.n<e.tr then atZ O s else e
theorem oC (e:El) (O:Int→El × Int) (more:List El):foundE e O more=if emptyB O (gfin (ovV O)).asked=true then (El.zero,3) else (more.foldl dJ (qB O (gfin (ovV O)) e),0):=by
 obtain⟨hI,-,-⟩:=jc (ovV O);unfold foundE gI qB atZ;have pe:dJ e e=e:=by unfold dJ;rw[if_neg (by omega)]
 cases ho:(gfin (ovV O)).ok with
 | false=>simp[pe]
 | true =>
  have hb:=(hI.best ho).2;have hn:(O (gfin (ovV O)).w).1.tr=(gfin (ovV O)).n:=congrArg Prod.fst hb;simp[pe];rw[← hn];rfl
theorem xz (x y a b d x' y' a' b' d':Int) (w:World) :
  Calls Tryz.prog 36 #[elC x y a b d,elC x' y' a' b' d'] w fun e w'=>e = .returned (.tuple #[elV (gfuseE ⟨x,y,a,b,d⟩ ⟨x',y',a',b',d'⟩).1,.int .i64 (gfuseE ⟨x,y,a,b,d⟩ ⟨x',y',a',b',d'⟩).2])∧Below w.heap.size w w':=by
 obtain⟨ma,hma⟩:∃ m,El.may ⟨x,y,a,b,d⟩=m:=⟨_,rfl⟩;obtain⟨mb,hmb⟩:∃ m,El.may ⟨x',y',a',b',d'⟩=m:=⟨_,rfl⟩;have MA:=Lh hma;have MB:=Lh hmb;cases ma with
 | false =>
  have EV:Hid (gfuseE ⟨x,y,a,b,d⟩ ⟨x',y',a',b',d'⟩=(El.zero,1)):=by show _=_;unfold gfuseE;rw[if_neg];rintro⟨h1,h2⟩;rw[hma] at h1;cases h1
  clear hma hmb;go_enter Tryz.func36,Tryz.ntmps36;go_wp2_with fail;obtain⟨u0,hu0⟩:∃ u,u=(((w).alloc (Obj.cells #[.int .i64 x,.int .i64 y,.int .i64 a,.int .i64 b,.int .i64 d] 27)).alloc (Obj.cells #[.int .i64 x',.int .i64 y',.int .i64 a',.int .i64 b',.int .i64 d'] 27)).alloc (Obj.cells #[.int .i64 0,.int .i64 0,.int .i64 0,.int .i64 0,.int .i64 0] 27):=⟨_,rfl⟩;rw[← hu0];have HB:=hB3 hu0;have X0:=b30 hu0;have X1:=b31 hu0;have X2:=b32 hu0;clear hu0;refine Calls.mono (aH _ _ _ _ _ _ MA.out _) ?_;rintro e x1 ⟨rfl,hb⟩;replace X0:=Kp X0 hb;replace X1:=Kp X1 hb;replace X2:=Kp X2 hb;replace HB:=Tp HB hb;clear hb;obtain⟨qX2a,qX2b,qX2c,qX2d,qX2e⟩:=cl5 X2;have rl_X2:=X2.out.lt;have fz_X2:=X2.out.frozen;have ft_X2:=X2.out.fits 5 (by simp);go_wp2_with fail;exact rT 5 z5 (.int .i64 1) ⟨by rw[EV.out] <;> rfl,ad⟩
 | true =>
  cases mb with
  | false =>
   have EV:Hid (gfuseE ⟨x,y,a,b,d⟩ ⟨x',y',a',b',d'⟩=(El.zero,1)):=by show _=_;unfold gfuseE;rw[if_neg];rintro⟨h1,h2⟩;rw[hmb] at h2;cases h2
   clear hma hmb;go_enter Tryz.func36,Tryz.ntmps36;go_wp2_with fail;obtain⟨u0,hu0⟩:∃ u,u=(((w).alloc (Obj.cells #[.int .i64 x,.int .i64 y,.int .i64 a,.int .i64 b,.int .i64 d] 27)).alloc (Obj.cells #[.int .i64 x',.int .i64 y',.int .i64 a',.int .i64 b',.int .i64 d'] 27)).alloc (Obj.cells #[.int .i64 0,.int .i64 0,.int .i64 0,.int .i64 0,.int .i64 0] 27):=⟨_,rfl⟩;rw[← hu0];have HB:=hB3 hu0;have X0:=b30 hu0;have X1:=b31 hu0;have X2:=b32 hu0;clear hu0;refine Calls.mono (aH _ _ _ _ _ _ MA.out _) ?_;rintro e x1 ⟨rfl,hb⟩;replace X0:=Kp X0 hb;replace X1:=Kp X1 hb;replace X2:=Kp X2 hb;replace HB:=Tp HB hb;clear hb;obtain⟨qX1a,qX1b,qX1c,qX1d,qX1e⟩:=cl5 X1;have rl_X1:=X1.out.lt;go_wp2_with fail;clear qX1a qX1b qX1c qX1d qX1e rl_X1;refine Calls.mono (aH _ _ _ _ _ _ MB.out _) ?_;rintro e x2 ⟨rfl,hb⟩;replace X0:=Kp X0 hb;replace X1:=Kp X1 hb;replace X2:=Kp X2 hb;replace HB:=Tp HB hb;clear hb;obtain⟨qX2a,qX2b,qX2c,qX2d,qX2e⟩:=cl5 X2;have rl_X2:=X2.out.lt;have fz_X2:=X2.out.frozen;have ft_X2:=X2.out.fits 5 (by simp);go_wp2_with fail;exact rT 5 z5 (.int .i64 1) ⟨by rw[EV.out] <;> rfl,ad⟩
  | true =>
   have E0:gfuseE ⟨x,y,a,b,d⟩ ⟨x',y',a',b',d'⟩=if emptyB (fuseE ⟨x,y,a,b,d⟩ ⟨x',y',a',b',d'⟩) (gfin (ovV (fuseE ⟨x,y,a,b,d⟩ ⟨x',y',a',b',d'⟩))).asked=true then (El.zero,3) else (([⟨x',y',a',b',d'⟩]:List El).foldl dJ (qB (fuseE ⟨x,y,a,b,d⟩ ⟨x',y',a',b',d'⟩) (gfin (ovV (fuseE ⟨x,y,a,b,d⟩ ⟨x',y',a',b',d'⟩))) ⟨x,y,a,b,d⟩),0):=by unfold gfuseE;rw[if_pos ⟨hma,hmb⟩,oC]
   obtain⟨em,hem⟩:∃ m,emptyB (fuseE ⟨x,y,a,b,d⟩ ⟨x',y',a',b',d'⟩) (gfin (ovV (fuseE ⟨x,y,a,b,d⟩ ⟨x',y',a',b',d'⟩))).asked=m:=⟨_,rfl⟩;obtain⟨⟨px,py,pa,pb,pd⟩,hp⟩:∃ p,atZ (fuseE ⟨x,y,a,b,d⟩ ⟨x',y',a',b',d'⟩) (gfin (ovV (fuseE ⟨x,y,a,b,d⟩ ⟨x',y',a',b',d'⟩)))=p:=⟨_,rfl⟩;obtain⟨sw,hsw⟩:∃ k,(gfin (ovV (fuseE ⟨x,y,a,b,d⟩ ⟨x',y',a',b',d'⟩))).w=k:=⟨_,rfl⟩;obtain⟨sn,hsn⟩:∃ k,(gfin (ovV (fuseE ⟨x,y,a,b,d⟩ ⟨x',y',a',b',d'⟩))).n=k:=⟨_,rfl⟩;obtain⟨so,hso⟩:∃ k,(gfin (ovV (fuseE ⟨x,y,a,b,d⟩ ⟨x',y',a',b',d'⟩))).ok=k:=⟨_,rfl⟩;obtain⟨te,hte⟩:∃ t,El.tr ⟨x,y,a,b,d⟩=t:=⟨_,rfl⟩;have HTE:=Lh hte;have E1:qB (fuseE ⟨x,y,a,b,d⟩ ⟨x',y',a',b',d'⟩) (gfin (ovV (fuseE ⟨x,y,a,b,d⟩ ⟨x',y',a',b',d'⟩))) ⟨x,y,a,b,d⟩=if so=true∧sn<te then ⟨px,py,pa,pb,pd⟩ else ⟨x,y,a,b,d⟩:=by unfold qB;rw[hp,hsn,hso,hte]
   rw[E1,hem] at E0;clear E1;have EE:=Lh E0;clear E0 hma hmb
   have M:∀ w0 u:World,Blk w0 w.heap.size #[.int .i64 x,.int .i64 y,.int .i64 a,.int .i64 b,.int .i64 d] 27→Blk w0 (w.heap.size+1) #[.int .i64 x',.int .i64 y',.int .i64 a',.int .i64 b',.int .i64 d'] 27→RZ w0 w0.heap.size (.pointer (some ⟨w.heap.size,0,none⟩)) (.pointer (some ⟨w.heap.size+1,0,none⟩)) (.pointer none) (fuseE ⟨x,y,a,b,d⟩ ⟨x',y',a',b',d'⟩) ⟨[],0,0,false⟩ u→Calls Tryz.prog 92 #[.pointer (some ⟨w0.heap.size,0,none⟩)] u fun e w'=>e = .returned (.tuple #[.int .i64 sw,.int .i64 sn,.bool so])∧Below w0.heap.size w0 w'∧∃ v,Blk w' w0.heap.size #[.slice none 0 0,.pointer (some ⟨w.heap.size,0,none⟩),.pointer (some ⟨w.heap.size+1,0,none⟩),.pointer none,.bool em,v,.int .i64 sw,.int .i64 sn,.bool so,.int .i64 px,.int .i64 py,.int .i64 pa,.int .i64 pb,.int .i64 pd] 121:=by
    intro w0 u BE BF h;refine(tJ w0 _ _ _ _ _ u (fun s k w hl h0 h1 h=>zS w0 _ _ _ _ _ _ _ _ _ _ _ _ _ s k w BE BF hl h) h).mono ?_;rintro e w' ⟨he,h1,-,v,h2,-⟩;unfold dK at h2;rw[hem,hp,hsw,hsn,hso] at h2;rw[hsw,hsn,hso] at he;exact⟨he,h1,v,h2⟩
   have HM:=Lh M;clear M hem hp hsw hsn hso hte;go_enter Tryz.func36,Tryz.ntmps36;go_wp2_with fail;obtain⟨u0,hu0⟩:∃ u,u=(((w).alloc (Obj.cells #[.int .i64 x,.int .i64 y,.int .i64 a,.int .i64 b,.int .i64 d] 27)).alloc (Obj.cells #[.int .i64 x',.int .i64 y',.int .i64 a',.int .i64 b',.int .i64 d'] 27)).alloc (Obj.cells #[.int .i64 0,.int .i64 0,.int .i64 0,.int .i64 0,.int .i64 0] 27):=⟨_,rfl⟩;rw[← hu0];have HB:=hB3 hu0;have X0:=b30 hu0;have X1:=b31 hu0;have X2:=b32 hu0;clear hu0;refine Calls.mono (aH _ _ _ _ _ _ MA.out _) ?_;rintro e x1 ⟨rfl,hb⟩;replace X0:=Kp X0 hb;replace X1:=Kp X1 hb;replace X2:=Kp X2 hb;replace HB:=Tp HB hb;clear hb;obtain⟨qX1a,qX1b,qX1c,qX1d,qX1e⟩:=cl5 X1;have rl_X1:=X1.out.lt;go_wp2_with fail;clear qX1a qX1b qX1c qX1d qX1e rl_X1;refine Calls.mono (aH _ _ _ _ _ _ MB.out _) ?_;rintro e x2 ⟨rfl,hb⟩;replace X0:=Kp X0 hb;replace X1:=Kp X1 hb;replace X2:=Kp X2 hb;replace HB:=Tp HB hb;clear hb;go_wp2_with fail;obtain⟨us,hu⟩:∃ u,u=x2.alloc (Obj.cells #[.slice none 0 0,.pointer (some ⟨w.heap.size,0,none⟩),.pointer (some ⟨w.heap.size+1,0,none⟩),.pointer none,.bool false,.slice none 0 0,.int .i64 0,.int .i64 0,.bool false,.int .i64 0,.int .i64 0,.int .i64 0,.int .i64 0,.int .i64 0] 121):=⟨_,rfl⟩;rw[← hu];have R0:RZ x2 x2.heap.size (.pointer (some ⟨w.heap.size,0,none⟩)) (.pointer (some ⟨w.heap.size+1,0,none⟩)) (.pointer none) (fuseE ⟨x,y,a,b,d⟩ ⟨x',y',a',b',d'⟩) ⟨[],0,0,false⟩ us:=by rw[hu];exact⟨(Below.refl _ _).alloc (Nat.le_refl _) _,Nat.le_refl _,.slice none 0 0,Blk.new _ _ _,⟨rfl,.inl ⟨rfl,rfl⟩⟩⟩
   clear hu;refine(HM.out _ _ X0.out X1.out R0).mono ?_;rintro e xs ⟨rfl,hb,v,SB⟩;clear R0;obtain⟨gS,hgS⟩:∃ g,x2.heap.size=g:=⟨_,rfl⟩;have gl0:w.heap.size<gS:=by rw[← hgS];exact X0.out.lt
   have gl1:w.heap.size+1<gS:=by rw[← hgS];exact X1.out.lt
   have gl2:w.heap.size+1+1<gS:=by rw[← hgS];exact X2.out.lt
   replace X0:=Kp X0 hb;replace X1:=Kp X1 hb;replace X2:=Kp X2 hb;replace HB:=Tp HB hb;clear hb;rw[hgS] at SB ⊢;replace SB:=Lh SB;clear hgS;cases em with
   | true =>
    have EV:Hid (gfuseE ⟨x,y,a,b,d⟩ ⟨x',y',a',b',d'⟩=(El.zero,3)):=by show _=_;rw[EE.out,if_pos rfl]
    have qSBe:=SB.out.cell (i:=4) (v := .bool true) rfl;have rl_SB:=SB.out.lt;obtain⟨qX2a,qX2b,qX2c,qX2d,qX2e⟩:=cl5 X2;have rl_X2:=X2.out.lt;have fz_X2:=X2.out.frozen;have ft_X2:=X2.out.fits 5 (by simp);go_wp2_with fail;exact rT 5 z5 (.int .i64 3) ⟨by rw[EV.out] <;> rfl,ad⟩
   | false =>
    obtain⟨tf,htf⟩:∃ t,El.tr ⟨x',y',a',b',d'⟩=t:=⟨_,rfl⟩;have HTF:=Lh htf;obtain⟨ta,hta⟩:∃ t,El.tr ⟨px,py,pa,pb,pd⟩=t:=⟨_,rfl⟩;have HTA:=Lh hta;have VA:Hid (gfuseE ⟨x,y,a,b,d⟩ ⟨x',y',a',b',d'⟩=((if so=true∧sn<te then (if tf<ta then ⟨x',y',a',b',d'⟩ else ⟨px,py,pa,pb,pd⟩) else (if tf<te then ⟨x',y',a',b',d'⟩ else ⟨x,y,a,b,d⟩)),0)):=by show _=_;rw[EE.out,if_neg (by decide)];simp only[List.foldl_cons,List.foldl_nil];unfold dJ;split;(rw[htf,hta]);(rw[htf,HTE.out])
    clear htf hta;have qSBe:=SB.out.cell (i:=4) (v := .bool false) rfl;have rl_SB:=SB.out.lt;obtain⟨qX0a,qX0b,qX0c,qX0d,qX0e⟩:=cl5 X0;have rl_X0:=X0.out.lt;go_upto_region 8 with fail
    clear qSBe rl_SB qX0a qX0b qX0c qX0d qX0e rl_X0;obtain⟨u3,hu⟩:∃ u,u=xs.alloc (Obj.cells #[.int .i64 x,.int .i64 y,.int .i64 a,.int .i64 b,.int .i64 d] 27):=⟨_,rfl⟩;rw[← hu];obtain⟨gXO,hg⟩:∃ g,xs.heap.size=g:=⟨_,rfl⟩;have gls:gS<gXO:=by rw[← hg];exact SB.out.lt
    have hb:=ba hu;replace X0:=Kp X0 hb;replace X1:=Kp X1 hb;replace X2:=Kp X2 hb;replace SB:=Kp SB hb;replace HB:=Tp HB hb;clear hb;have XO:=bn hu hg;rw[hg];clear hu hg;cases so with
    | false =>
     go_wp2_with fail;by_cases hl:tf<te
     ·have hd:decide (tf<te)=true:=by simp[hl]
      have EV:Hid (gfuseE ⟨x,y,a,b,d⟩ ⟨x',y',a',b',d'⟩=(⟨x',y',a',b',d'⟩,0)):=by show _=_;rw[VA.out];(repeat' split) <;> first|rfl|(exfalso;omega)|(exfalso;simp at *;done)|(exfalso;simp at *;omega)
      obtain⟨qX1a,qX1b,qX1c,qX1d,qX1e⟩:=rg5 X1;obtain⟨qXOa,qXOb,qXOc,qXOd,qXOe⟩:=rg5 XO;refine wp_region_quiet_below (by kernel_rfl) (by kernel_rfl) ?_
      repeat (go_big_quiet_step (first
       | (go_at_call 79;exact Calls.regrown_of (by first|with_reducible exact bO _ _ _ _ _ _ HTF.out _|with_reducible exact bO _ _ _ _ _ _ HTE.out _))))
      refine wpQuiet_nil ?_;intro x4 hw;have hb:=ay hw;clear hw qX1a qX1b qX1c qX1d qX1e qXOa qXOb qXOc qXOd qXOe;replace X0:=Kp X0 hb;replace X1:=Kp X1 hb;replace X2:=Kp X2 hb;replace SB:=Kp SB hb;replace XO:=Kp XO hb;replace HB:=Tp HB hb;clear hb;obtain⟨qX1a,qX1b,qX1c,qX1d,qX1e⟩:=cl5 X1;have rl_X1:=X1.out.lt;obtain⟨qXOa,qXOb,qXOc,qXOd,qXOe⟩:=cl5 XO;have rl_XO:=XO.out.lt;have fz_XO:=XO.out.frozen;have ft_XO:=XO.out.fits 5 (by simp);go_upto_region 12 with fail
      clear qX1a qX1b qX1c qX1d qX1e rl_X1 qXOa qXOb qXOc qXOd qXOe rl_XO fz_XO ft_XO;obtain⟨v5,hv⟩:∃ v,v=(((((x4).setCell ⟨gXO,0,none⟩ (.int .i64 x')).setCell ⟨gXO,1,none⟩ (.int .i64 y')).setCell ⟨gXO,2,none⟩ (.int .i64 a')).setCell ⟨gXO,3,none⟩ (.int .i64 b')).setCell ⟨gXO,4,none⟩ (.int .i64 d'):=⟨_,rfl⟩;rw[← hv];have ho:ah (gXO) x4 v5:=by rw[hv];exact(((((ah.refl).setCell 0 _).setCell 1 _).setCell 2 _).setCell 3 _).setCell 4 _
      replace X0:=Hk ho X0;replace X1:=Hk ho X1;replace X2:=Hk ho X2;replace SB:=Hk ho SB;replace HB:=Ho ho HB;replace XO:Hid (Blk v5 (gXO) #[.int .i64 x',.int .i64 y',.int .i64 a',.int .i64 b',.int .i64 d'] 27):=by rw[hv];exact Blk.of_eq ((((((XO.out).ab 0 _).ab 1 _).ab 2 _).ab 3 _).ab 4 _) (by simp)
      clear ho hv;obtain⟨qXOa,qXOb,qXOc,qXOd,qXOe⟩:=cl5 XO;have rl_XO:=XO.out.lt;obtain⟨qX2a,qX2b,qX2c,qX2d,qX2e⟩:=cl5 X2;have rl_X2:=X2.out.lt;have fz_X2:=X2.out.frozen;have ft_X2:=X2.out.fits 5 (by simp);go_wp2_with fail;exact rT 5 #[.int .i64 x',.int .i64 y',.int .i64 a',.int .i64 b',.int .i64 d'] (.int .i64 0) ⟨by rw[EV.out] <;> rfl,ad⟩
     ·have hd:decide (tf<te)=false:=by simp[hl]
      have EV:Hid (gfuseE ⟨x,y,a,b,d⟩ ⟨x',y',a',b',d'⟩=(⟨x,y,a,b,d⟩,0)):=by show _=_;rw[VA.out];(repeat' split) <;> first|rfl|(exfalso;omega)|(exfalso;simp at *;done)|(exfalso;simp at *;omega)
      obtain⟨qX1a,qX1b,qX1c,qX1d,qX1e⟩:=rg5 X1;obtain⟨qXOa,qXOb,qXOc,qXOd,qXOe⟩:=rg5 XO;refine wp_region_quiet_below (by kernel_rfl) (by kernel_rfl) ?_
      repeat (go_big_quiet_step (first
       | (go_at_call 79;exact Calls.regrown_of (by first|with_reducible exact bO _ _ _ _ _ _ HTF.out _|with_reducible exact bO _ _ _ _ _ _ HTE.out _))))
      refine wpQuiet_nil ?_;intro x4 hw;have hb:=ay hw;clear hw qX1a qX1b qX1c qX1d qX1e qXOa qXOb qXOc qXOd qXOe;replace X0:=Kp X0 hb;replace X1:=Kp X1 hb;replace X2:=Kp X2 hb;replace SB:=Kp SB hb;replace XO:=Kp XO hb;replace HB:=Tp HB hb;clear hb;obtain⟨qXOa,qXOb,qXOc,qXOd,qXOe⟩:=cl5 XO;have rl_XO:=XO.out.lt;obtain⟨qX2a,qX2b,qX2c,qX2d,qX2e⟩:=cl5 X2;have rl_X2:=X2.out.lt;have fz_X2:=X2.out.frozen;have ft_X2:=X2.out.fits 5 (by simp);go_wp2_with fail;exact rT 5 #[.int .i64 x,.int .i64 y,.int .i64 a,.int .i64 b,.int .i64 d] (.int .i64 0) ⟨by rw[EV.out] <;> rfl,ad⟩
    | true =>
     obtain⟨qXOa,qXOb,qXOc,qXOd,qXOe⟩:=cl5 XO;have rl_XO:=XO.out.lt;go_wp2_with fail;clear qXOa qXOb qXOc qXOd qXOe rl_XO;refine Calls.mono (bO _ _ _ _ _ _ HTE.out _) ?_;rintro e x4 ⟨rfl,hb⟩;replace X0:=Kp X0 hb;replace X1:=Kp X1 hb;replace X2:=Kp X2 hb;replace SB:=Kp SB hb;replace XO:=Kp XO hb;replace HB:=Tp HB hb;clear hb;by_cases hs:sn<te
     ·have hd0:decide (sn<te)=true:=by simp[hs]
      have qSBj:=SB.out.cell (i:=9) (v := .int .i64 px) rfl;have qSBk:=SB.out.cell (i:=10) (v := .int .i64 py) rfl;have qSBl:=SB.out.cell (i:=11) (v := .int .i64 pa) rfl;have qSBm:=SB.out.cell (i:=12) (v := .int .i64 pb) rfl;have qSBn:=SB.out.cell (i:=13) (v := .int .i64 pd) rfl;have rl_SB:=SB.out.lt;obtain⟨qXOa,qXOb,qXOc,qXOd,qXOe⟩:=cl5 XO;have rl_XO:=XO.out.lt;have fz_XO:=XO.out.frozen;have ft_XO:=XO.out.fits 5 (by simp);go_upto_region 10 with fail
      clear qSBj qSBk qSBl qSBm qSBn rl_SB qXOa qXOb qXOc qXOd qXOe rl_XO fz_XO ft_XO;obtain⟨v5,hv⟩:∃ v,v=(((((x4).setCell ⟨gXO,0,none⟩ (.int .i64 px)).setCell ⟨gXO,1,none⟩ (.int .i64 py)).setCell ⟨gXO,2,none⟩ (.int .i64 pa)).setCell ⟨gXO,3,none⟩ (.int .i64 pb)).setCell ⟨gXO,4,none⟩ (.int .i64 pd):=⟨_,rfl⟩;rw[← hv];have ho:ah (gXO) x4 v5:=by rw[hv];exact(((((ah.refl).setCell 0 _).setCell 1 _).setCell 2 _).setCell 3 _).setCell 4 _
      replace X0:=Hk ho X0;replace X1:=Hk ho X1;replace X2:=Hk ho X2;replace SB:=Hk ho SB;replace HB:=Ho ho HB;replace XO:Hid (Blk v5 (gXO) #[.int .i64 px,.int .i64 py,.int .i64 pa,.int .i64 pb,.int .i64 pd] 27):=by rw[hv];exact Blk.of_eq ((((((XO.out).ab 0 _).ab 1 _).ab 2 _).ab 3 _).ab 4 _) (by simp)
      clear ho hv;by_cases hl:tf<ta
      ·have hd:decide (tf<ta)=true:=by simp[hl]
       have EV:Hid (gfuseE ⟨x,y,a,b,d⟩ ⟨x',y',a',b',d'⟩=(⟨x',y',a',b',d'⟩,0)):=by show _=_;rw[VA.out];(repeat' split) <;> first|rfl|(exfalso;omega)|(exfalso;simp at *;done)|(exfalso;simp at *;omega)
       obtain⟨qX1a,qX1b,qX1c,qX1d,qX1e⟩:=rg5 X1;obtain⟨qXOa,qXOb,qXOc,qXOd,qXOe⟩:=rg5 XO;refine wp_region_quiet_below (by kernel_rfl) (by kernel_rfl) ?_
       repeat (go_big_quiet_step (first
        | (go_at_call 79;exact Calls.regrown_of (by first|with_reducible exact bO _ _ _ _ _ _ HTF.out _|with_reducible exact bO _ _ _ _ _ _ HTA.out _))))
       refine wpQuiet_nil ?_;intro x6 hw;have hb:=ay hw;clear hw qX1a qX1b qX1c qX1d qX1e qXOa qXOb qXOc qXOd qXOe;replace X0:=Kp X0 hb;replace X1:=Kp X1 hb;replace X2:=Kp X2 hb;replace SB:=Kp SB hb;replace XO:=Kp XO hb;replace HB:=Tp HB hb;clear hb;obtain⟨qX1a,qX1b,qX1c,qX1d,qX1e⟩:=cl5 X1;have rl_X1:=X1.out.lt;obtain⟨qXOa,qXOb,qXOc,qXOd,qXOe⟩:=cl5 XO;have rl_XO:=XO.out.lt;have fz_XO:=XO.out.frozen;have ft_XO:=XO.out.fits 5 (by simp);go_upto_region 12 with fail
       clear qX1a qX1b qX1c qX1d qX1e rl_X1 qXOa qXOb qXOc qXOd qXOe rl_XO fz_XO ft_XO;obtain⟨v7,hv⟩:∃ v,v=(((((x6).setCell ⟨gXO,0,none⟩ (.int .i64 x')).setCell ⟨gXO,1,none⟩ (.int .i64 y')).setCell ⟨gXO,2,none⟩ (.int .i64 a')).setCell ⟨gXO,3,none⟩ (.int .i64 b')).setCell ⟨gXO,4,none⟩ (.int .i64 d'):=⟨_,rfl⟩;rw[← hv];have ho:ah (gXO) x6 v7:=by rw[hv];exact(((((ah.refl).setCell 0 _).setCell 1 _).setCell 2 _).setCell 3 _).setCell 4 _
       replace X0:=Hk ho X0;replace X1:=Hk ho X1;replace X2:=Hk ho X2;replace SB:=Hk ho SB;replace HB:=Ho ho HB;replace XO:Hid (Blk v7 (gXO) #[.int .i64 x',.int .i64 y',.int .i64 a',.int .i64 b',.int .i64 d'] 27):=by rw[hv];exact Blk.of_eq ((((((XO.out).ab 0 _).ab 1 _).ab 2 _).ab 3 _).ab 4 _) (by simp)
       clear ho hv;obtain⟨qXOa,qXOb,qXOc,qXOd,qXOe⟩:=cl5 XO;have rl_XO:=XO.out.lt;obtain⟨qX2a,qX2b,qX2c,qX2d,qX2e⟩:=cl5 X2;have rl_X2:=X2.out.lt;have fz_X2:=X2.out.frozen;have ft_X2:=X2.out.fits 5 (by simp);go_wp2_with fail;exact rT 5 #[.int .i64 x',.int .i64 y',.int .i64 a',.int .i64 b',.int .i64 d'] (.int .i64 0) ⟨by rw[EV.out] <;> rfl,ad⟩
      ·have hd:decide (tf<ta)=false:=by simp[hl]
       have EV:Hid (gfuseE ⟨x,y,a,b,d⟩ ⟨x',y',a',b',d'⟩=(⟨px,py,pa,pb,pd⟩,0)):=by show _=_;rw[VA.out];(repeat' split) <;> first|rfl|(exfalso;omega)|(exfalso;simp at *;done)|(exfalso;simp at *;omega)
       obtain⟨qX1a,qX1b,qX1c,qX1d,qX1e⟩:=rg5 X1;obtain⟨qXOa,qXOb,qXOc,qXOd,qXOe⟩:=rg5 XO;refine wp_region_quiet_below (by kernel_rfl) (by kernel_rfl) ?_
       repeat (go_big_quiet_step (first
        | (go_at_call 79;exact Calls.regrown_of (by first|with_reducible exact bO _ _ _ _ _ _ HTF.out _|with_reducible exact bO _ _ _ _ _ _ HTA.out _))))
       refine wpQuiet_nil ?_;intro x6 hw;have hb:=ay hw;clear hw qX1a qX1b qX1c qX1d qX1e qXOa qXOb qXOc qXOd qXOe;replace X0:=Kp X0 hb;replace X1:=Kp X1 hb;replace X2:=Kp X2 hb;replace SB:=Kp SB hb;replace XO:=Kp XO hb;replace HB:=Tp HB hb;clear hb;obtain⟨qXOa,qXOb,qXOc,qXOd,qXOe⟩:=cl5 XO;have rl_XO:=XO.out.lt;obtain⟨qX2a,qX2b,qX2c,qX2d,qX2e⟩:=cl5 X2;have rl_X2:=X2.out.lt;have fz_X2:=X2.out.frozen;have ft_X2:=X2.out.fits 5 (by simp);go_wp2_with fail;exact rT 5 #[.int .i64 px,.int .i64 py,.int .i64 pa,.int .i64 pb,.int .i64 pd] (.int .i64 0) ⟨by rw[EV.out] <;> rfl,ad⟩
     ·have hd0:decide (sn<te)=false:=by simp[hs]
      go_wp2_with fail;by_cases hl:tf<te
      ·have hd:decide (tf<te)=true:=by simp[hl]
       have EV:Hid (gfuseE ⟨x,y,a,b,d⟩ ⟨x',y',a',b',d'⟩=(⟨x',y',a',b',d'⟩,0)):=by show _=_;rw[VA.out];(repeat' split) <;> first|rfl|(exfalso;omega)|(exfalso;simp at *;done)|(exfalso;simp at *;omega)
       obtain⟨qX1a,qX1b,qX1c,qX1d,qX1e⟩:=rg5 X1;obtain⟨qXOa,qXOb,qXOc,qXOd,qXOe⟩:=rg5 XO;refine wp_region_quiet_below (by kernel_rfl) (by kernel_rfl) ?_
       repeat (go_big_quiet_step (first
        | (go_at_call 79;exact Calls.regrown_of (by first|with_reducible exact bO _ _ _ _ _ _ HTF.out _|with_reducible exact bO _ _ _ _ _ _ HTE.out _))))
       refine wpQuiet_nil ?_;intro x5 hw;have hb:=ay hw;clear hw qX1a qX1b qX1c qX1d qX1e qXOa qXOb qXOc qXOd qXOe;replace X0:=Kp X0 hb;replace X1:=Kp X1 hb;replace X2:=Kp X2 hb;replace SB:=Kp SB hb;replace XO:=Kp XO hb;replace HB:=Tp HB hb;clear hb;obtain⟨qX1a,qX1b,qX1c,qX1d,qX1e⟩:=cl5 X1;have rl_X1:=X1.out.lt;obtain⟨qXOa,qXOb,qXOc,qXOd,qXOe⟩:=cl5 XO;have rl_XO:=XO.out.lt;have fz_XO:=XO.out.frozen;have ft_XO:=XO.out.fits 5 (by simp);go_upto_region 12 with fail
       clear qX1a qX1b qX1c qX1d qX1e rl_X1 qXOa qXOb qXOc qXOd qXOe rl_XO fz_XO ft_XO;obtain⟨v6,hv⟩:∃ v,v=(((((x5).setCell ⟨gXO,0,none⟩ (.int .i64 x')).setCell ⟨gXO,1,none⟩ (.int .i64 y')).setCell ⟨gXO,2,none⟩ (.int .i64 a')).setCell ⟨gXO,3,none⟩ (.int .i64 b')).setCell ⟨gXO,4,none⟩ (.int .i64 d'):=⟨_,rfl⟩;rw[← hv];have ho:ah (gXO) x5 v6:=by rw[hv];exact(((((ah.refl).setCell 0 _).setCell 1 _).setCell 2 _).setCell 3 _).setCell 4 _
       replace X0:=Hk ho X0;replace X1:=Hk ho X1;replace X2:=Hk ho X2;replace SB:=Hk ho SB;replace HB:=Ho ho HB;replace XO:Hid (Blk v6 (gXO) #[.int .i64 x',.int .i64 y',.int .i64 a',.int .i64 b',.int .i64 d'] 27):=by rw[hv];exact Blk.of_eq ((((((XO.out).ab 0 _).ab 1 _).ab 2 _).ab 3 _).ab 4 _) (by simp)
       clear ho hv;obtain⟨qXOa,qXOb,qXOc,qXOd,qXOe⟩:=cl5 XO;have rl_XO:=XO.out.lt;obtain⟨qX2a,qX2b,qX2c,qX2d,qX2e⟩:=cl5 X2;have rl_X2:=X2.out.lt;have fz_X2:=X2.out.frozen;have ft_X2:=X2.out.fits 5 (by simp);go_wp2_with fail;exact rT 5 #[.int .i64 x',.int .i64 y',.int .i64 a',.int .i64 b',.int .i64 d'] (.int .i64 0) ⟨by rw[EV.out] <;> rfl,ad⟩
      ·have hd:decide (tf<te)=false:=by simp[hl]
       have EV:Hid (gfuseE ⟨x,y,a,b,d⟩ ⟨x',y',a',b',d'⟩=(⟨x,y,a,b,d⟩,0)):=by show _=_;rw[VA.out];(repeat' split) <;> first|rfl|(exfalso;omega)|(exfalso;simp at *;done)|(exfalso;simp at *;omega)
       obtain⟨qX1a,qX1b,qX1c,qX1d,qX1e⟩:=rg5 X1;obtain⟨qXOa,qXOb,qXOc,qXOd,qXOe⟩:=rg5 XO;refine wp_region_quiet_below (by kernel_rfl) (by kernel_rfl) ?_
       repeat (go_big_quiet_step (first
        | (go_at_call 79;exact Calls.regrown_of (by first|with_reducible exact bO _ _ _ _ _ _ HTF.out _|with_reducible exact bO _ _ _ _ _ _ HTE.out _))))
       refine wpQuiet_nil ?_;intro x5 hw;have hb:=ay hw;clear hw qX1a qX1b qX1c qX1d qX1e qXOa qXOb qXOc qXOd qXOe;replace X0:=Kp X0 hb;replace X1:=Kp X1 hb;replace X2:=Kp X2 hb;replace SB:=Kp SB hb;replace XO:=Kp XO hb;replace HB:=Tp HB hb;clear hb;obtain⟨qXOa,qXOb,qXOc,qXOd,qXOe⟩:=cl5 XO;have rl_XO:=XO.out.lt;obtain⟨qX2a,qX2b,qX2c,qX2d,qX2e⟩:=cl5 X2;have rl_X2:=X2.out.lt;have fz_X2:=X2.out.frozen;have ft_X2:=X2.out.fits 5 (by simp);go_wp2_with fail;exact rT 5 #[.int .i64 x,.int .i64 y,.int .i64 a,.int .i64 b,.int .i64 d] (.int .i64 0) ⟨by rw[EV.out] <;> rfl,ad⟩
theorem qq (x y a b d x' y' a' b' d' ox oy oa ob od k:Int) (hv0:gfuseE ⟨x,y,a,b,d⟩ ⟨x',y',a',b',d'⟩=(⟨ox,oy,oa,ob,od⟩,k)) (w:World) :
  Calls Tryz.prog 36 #[elC x y a b d,elC x' y' a' b' d'] w fun e w'=>e = .returned (.tuple #[elC ox oy oa ob od,.int .i64 k])∧Below w.heap.size w w':=by
 have:=xz x y a b d x' y' a' b' d' w;rw[hv0] at this;exact this
end Go.Proofs.YtnoidlacjiafdaaGreat
