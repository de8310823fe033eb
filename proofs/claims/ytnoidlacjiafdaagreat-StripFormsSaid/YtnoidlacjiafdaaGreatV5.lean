/- The plain law of strip.Update, and its walk. -/
import Derived.Test.YtnoidlacjiafdaaGreatVA
import Derived.Test.YtnoidlacjiafdaaGreatH5
import Derived.WalkKit
import Derived.Lib.QuietBelow
import Derived.BigQuiet
namespace Go.Proofs.YtnoidlacjiafdaaGreat
set_option linter.unusedSimpArgs false
set_option linter.unusedVariables false
set_option maxRecDepth 100000
set_option maxHeartbeats 16000000
open Go.RowKit
def iQ (e n:El) (lo hi:Int):El × Int :=
 if (ringE e n lo hi).2=3 then (El.zero,3)
 else if (ringE e n lo hi).2=0 then (if (gcutE e (ringE e n lo hi).1).2=3 then (El.zero,3) else if (gcutE e (ringE e n lo hi).1).2=0 then ((gcutE e (ringE e n lo hi).1).1,0) else (e,0))
 else (e,0)
def updE (e n:El) (lo hi:Int):El × Int :=
 if e.may=true∧n.may=true∧aJ lo hi=true then
  if (ballE n.x n.y (hi+n.rad)).2=0 then
   if (gfuseE e (ballE n.x n.y (hi+n.rad)).1).2=3 then (El.zero,3)
   else if (gfuseE e (ballE n.x n.y (hi+n.rad)).1).2=0 then iQ (gfuseE e (ballE n.x n.y (hi+n.rad)).1).1 n lo hi
   else iQ e n lo hi
  else iQ e n lo hi
 else (El.zero,1)
section
variable {e n:El} {p q p' q' lo hi:Int} (t:Ge e n p q p' q' lo hi)
include t
end
theorem fH (e n c:El) (lo hi:Int) (s:St) (kr kc:Int) (h1:ringE e n lo hi=(s,kr)) (h2:gcutE e s=(c,kc)) :
  (kr=3∧iQ e n lo hi=(El.zero,3))∨(kr=0∧kc=3∧iQ e n lo hi=(El.zero,3))∨(kr=0∧kc=0∧iQ e n lo hi=(c,0))∨(kr=0∧¬ kc=0∧¬ kc=3∧iQ e n lo hi=(e,0))∨(¬ kr=0∧¬ kr=3∧iQ e n lo hi=(e,0)):=by
 unfold iQ;rw[h1];simp only;rw[h2];simp only;by_cases r3:kr=3
 ·left;exact⟨r3,by rw[if_pos r3]⟩
 ·right;rw[if_neg r3];by_cases r0:kr=0
  ·rw[if_pos r0];by_cases c3:kc=3
   ·left;exact⟨r0,c3,by rw[if_pos c3]⟩
   ·rw[if_neg c3];by_cases c0:kc=0
    ·right;left;exact⟨r0,c0,by rw[if_pos c0]⟩
    ·right;right;left;exact⟨r0,c0,c3,by rw[if_neg c0]⟩
  ·right;right;right;exact⟨r0,r3,by rw[if_neg r0]⟩
theorem nz (e n b f:El) (lo hi kb kf:Int) (he:e.may=true) (hn:n.may=true) (hr:aJ lo hi=true) (h1:ballE n.x n.y (hi+n.rad)=(b,kb)) (h2:gfuseE e b=(f,kf)) :
  (¬ kb=0∧updE e n lo hi=iQ e n lo hi)∨(kb=0∧kf=3∧updE e n lo hi=(El.zero,3))∨(kb=0∧kf=0∧updE e n lo hi=iQ f n lo hi):=by
 unfold updE;rw[if_pos ⟨he,hn,hr⟩,h1];simp only;rw[h2];simp only;by_cases b0:kb=0
 ·right;rw[if_pos b0]
  have bm:b.may=true:=by
   unfold ballE at h1;split at h1
   ·rename_i hc;injection h1 with h1 _;subst h1
    exact zv _ _ _ hc.1 hc.2.1 hc.2.2
   ·injection h1 with _ h1;omega
  rcases gholds e b he bm 0 0 h2 with ⟨h3,-⟩|⟨h0,-⟩
  ·left;exact⟨b0,h3,by rw[if_pos h3]⟩
  ·right;exact⟨b0,h0,by rw[if_neg (by omega),if_pos h0]⟩
 ·left;exact⟨b0,by rw[if_neg b0]⟩
theorem dE {w:World} {g:Nat} {x y a b d:Int} {t:TypeId} (C:Blk w g #[.int .i64 x,.int .i64 y,.int .i64 a,.int .i64 b,.int .i64 d] t) :
  w.cell? ⟨g,0,none⟩=some (.int .i64 x)∧w.cell? ⟨g,1,none⟩=some (.int .i64 y)∧w.cell? ⟨g,2,none⟩=some (.int .i64 a)∧w.cell? ⟨g,3,none⟩=some (.int .i64 b)∧w.cell? ⟨g,4,none⟩=some (.int .i64 d) :=
 ⟨C.cell rfl,C.cell rfl,C.cell rfl,C.cell rfl,C.cell rfl⟩
theorem jx (e n:El) (lo hi:Int) (h:e.may=false∨n.may=false∨aJ lo hi=false):updE e n lo hi=(El.zero,1):=by
 unfold updE;rw[if_neg];rintro⟨h1,h2,h3⟩;rw[h1,h2,h3] at h;simp at h
theorem E7 (x y a b d x' y' a' b' d' lo hi:Int) (w:World) :
  Calls Tryz.prog 7 #[elC x y a b d,elC x' y' a' b' d',.int .i64 lo,.int .i64 hi] w fun e w'=>e = .returned (.tuple #[elV (updE ⟨x,y,a,b,d⟩ ⟨x',y',a',b',d'⟩ lo hi).1,.int .i64 (updE ⟨x,y,a,b,d⟩ ⟨x',y',a',b',d'⟩ lo hi).2])∧Below w.heap.size w w':=by
 rcases ring_cases ⟨x,y,a,b,d⟩ ⟨x',y',a',b',d'⟩ lo hi with h1|⟨h1,h2⟩|⟨h1,h2,h3⟩|⟨h1,h2,h3⟩
 ·have EV:=Lh (jx ⟨x,y,a,b,d⟩ ⟨x',y',a',b',d'⟩ lo hi (.inl h1));have H1:=Lh h1;clear h1;go_enter Tryz.func7,Tryz.ntmps7;go_wp2_with fail;refine(aN _ _ _ _ _ _ H1.out _).mono ?_;rintro e w1 ⟨rfl,hb1⟩;have z_w1:=hb1.size;(try simp at z_w1);have K_w1_0:=bq3 hb1 (w.heap.size);go_wp2_with fail;exact rT 5 z5 (.int .i64 1) ⟨by rw[EV.out];rfl,ad⟩
 ·have EV:=Lh (jx ⟨x,y,a,b,d⟩ ⟨x',y',a',b',d'⟩ lo hi (.inr (.inl h2)));have H1:=Lh h1;have H2:=Lh h2;clear h1 h2;go_enter Tryz.func7,Tryz.ntmps7;go_wp2_with fail;refine(aN _ _ _ _ _ _ H1.out _).mono ?_;rintro e w1 ⟨rfl,hb1⟩;have z_w1:=hb1.size;(try simp at z_w1);have K_w1_0:=bq3 hb1 (w.heap.size);go_wp2_with fail;refine(aN _ _ _ _ _ _ H2.out _).mono ?_;rintro e w2 ⟨rfl,hb2⟩;have z_w2:=hb2.size;(try simp at z_w2);have K_w2_0:=bq3 hb2 (w.heap.size);go_wp2_with fail;exact rT 5 z5 (.int .i64 1) ⟨by rw[EV.out];rfl,ad⟩
 ·have EV:=Lh (jx ⟨x,y,a,b,d⟩ ⟨x',y',a',b',d'⟩ lo hi (.inr (.inr h3)));have H1:=Lh h1;have H2:=Lh h2;have H3:=Lh h3;clear h1 h2 h3;go_enter Tryz.func7,Tryz.ntmps7;go_wp2_with fail;refine(aN _ _ _ _ _ _ H1.out _).mono ?_;rintro e w1 ⟨rfl,hb1⟩;have z_w1:=hb1.size;(try simp at z_w1);have K_w1_0:=bq3 hb1 (w.heap.size);go_wp2_with fail;refine(aN _ _ _ _ _ _ H2.out _).mono ?_;rintro e w2 ⟨rfl,hb2⟩;have z_w2:=hb2.size;(try simp at z_w2);have K_w2_0:=bq3 hb2 (w.heap.size);go_wp2_with fail;refine(jz _ _ _ H3.out _).mono ?_;rintro e w3 ⟨rfl,hb3⟩;have z_w3:=hb3.size;(try simp at z_w3);have K_w3_0:=bq3 hb3 (w.heap.size);go_wp2_with fail;exact rT 5 z5 (.int .i64 1) ⟨by rw[EV.out];rfl,ad⟩
 ·have rl:=El.fg ⟨x',y',a',b',d'⟩;have r0:=eR ⟨x',y',a',b',d'⟩;have hrr:=(dj _ _).1 h3;obtain⟨R,hR⟩:∃ R,El.rad ⟨x',y',a',b',d'⟩=R:=⟨_,rfl⟩;obtain⟨far,hf⟩:∃ h,hi+R=h:=⟨_,rfl⟩;rw[hR] at rl r0;have wr:wrap64 (hi+R)=far:=by rw[hf];unfold wrap64;omega
  have wr2:IntKind.i64.wrap (hi+R)=far:=by rw[IntKind.wrap_i64,hf];omega
  obtain⟨⟨bx,bY,ba,bb,bd⟩,kb,hb⟩:∃ o k,ballE x' y' far=(o,k):=⟨_,_,rfl⟩;obtain⟨⟨fx,fy,fa,fb,fd⟩,kf,hfu⟩:∃ o k,gfuseE ⟨x,y,a,b,d⟩ ⟨bx,bY,ba,bb,bd⟩=(o,k):=⟨_,_,rfl⟩;have UC:=nz ⟨x,y,a,b,d⟩ ⟨x',y',a',b',d'⟩ _ _ lo hi kb kf h1 h2 h3 (by show ballE x' y' (hi+El.rad ⟨x',y',a',b',d'⟩)=_;rw[hR,hf];exact hb) hfu;have H1:=Lh h1;have H2:=Lh h2;have H3:=Lh h3;have ER:=Lh hR;have EB:=Lh hb;have EF:=Lh hfu;have UH:=Lh UC;clear h1 h2 h3 hR hf hb hfu rl r0 hrr UC;go_enter Tryz.func7,Tryz.ntmps7;go_wp2_with fail;refine(aN _ _ _ _ _ _ H1.out _).mono ?_;rintro e w1 ⟨rfl,hb1⟩;have z_w1:=hb1.size;(try simp at z_w1);have K_w1_0:=bq3 hb1 (w.heap.size);go_wp2_with fail;refine(aN _ _ _ _ _ _ H2.out _).mono ?_;rintro e w2 ⟨rfl,hb2⟩;have z_w2:=hb2.size;(try simp at z_w2);have K_w2_0:=bq3 hb2 (w.heap.size);go_wp2_with fail;refine(jz _ _ _ H3.out _).mono ?_;rintro e w3 ⟨rfl,hb3⟩;have z_w3:=hb3.size;(try simp at z_w3);have K_w3_0:=bq3 hb3 (w.heap.size);go_wp2_with fail;have HBW:Hid (Below w.heap.size w w3):=(show Below _ _ _ from ad);have X0:Hid (Blk w3 w.heap.size #[.int .i64 x,.int .i64 y,.int .i64 a,.int .i64 b,.int .i64 d] 27):=(((((Blk.new w _ _).alloc _).alloc _).keep hb1).keep hb2).keep hb3;have X1:Hid (Blk w3 (w.heap.size+1) #[.int .i64 x',.int .i64 y',.int .i64 a',.int .i64 b',.int .i64 d'] 27):=((((Blk.new' (w.alloc _) _ _ (by simp)).alloc _).keep hb1).keep hb2).keep hb3;have X2:Hid (Blk w3 (w.heap.size+1+1) #[.int .i64 0,.int .i64 0,.int .i64 0,.int .i64 0,.int .i64 0] 27):=(((Blk.new' ((w.alloc _).alloc _) _ _ (by simp)).keep hb1).keep hb2).keep hb3;have l3:=X2.out.lt;clear z_w3 K_w3_0;clear z_w2 K_w2_0;clear z_w1 K_w1_0;clear hb1 hb2 hb3;go_cut [10,11] from 12 (fun s10 s11 wc=>∃ g,s10 = .pointer (some ⟨g,0,none⟩)∧s11 = .int .i64 kb∧w3.heap.size≤g∧Hid (Blk wc g #[.int .i64 bx,.int .i64 bY,.int .i64 ba,.int .i64 bb,.int .i64 bd] 27)∧Hid (Below w3.heap.size w3 wc))
  case first =>
   have XX:Blk w3 (w.heap.size+1) #[.int .i64 x',.int .i64 y',.int .i64 a',.int .i64 b',.int .i64 d'] 27:=X1.out;have rr:=dE XX
   go_region_held3 (fun w'=>w'.cell? ⟨w.heap.size+1,0,none⟩=some (.int .i64 x')∧w'.cell? ⟨w.heap.size+1,1,none⟩=some (.int .i64 y')∧w'.cell? ⟨w.heap.size+1,2,none⟩=some (.int .i64 a')∧w'.cell? ⟨w.heap.size+1,3,none⟩=some (.int .i64 b')∧w'.cell? ⟨w.heap.size+1,4,none⟩=some (.int .i64 d')) (first|with_reducible exact rr|(with_reducible refine dE (t:=27) ?_;(repeat (first|with_reducible exact XX|with_reducible refine Blk.drew ?_|with_reducible refine Blk.alloc ?_ _));done)|go_simp)
    (first
     | (go_at_call 19;refine(qt _ _ _ _ _ _ ER.out _).mono ?_;rintro e w4 ⟨rfl,hb4⟩;have XX:Blk w4 (w.heap.size+1) #[.int .i64 x',.int .i64 y',.int .i64 a',.int .i64 b',.int .i64 d'] 27:=(by(with_reducible refine Blk.keep ?_ hb4);(repeat (first|with_reducible exact XX|with_reducible refine Blk.drew ?_|with_reducible refine Blk.alloc ?_ _)));have rr:=dE XX;have z_w4:=hb4.size;(try simp at z_w4);(try (refine aI (bk hb4 (w3.heap.size)) ?_ ?_;(focus (first|omega|(simp;done)|(simp;omega)));rintro⟨y_w4_q0,c_w4_q0,f_w4_q0,r_w4_q0,t_w4_q0,p_w4_q0⟩)))
     | (go_at_call 32;refine(fE _ _ _ _ _ _ _ _ _ EB.out _).mono ?_;rintro e w5 ⟨rfl,hb5⟩;have XX:Blk w5 (w.heap.size+1) #[.int .i64 x',.int .i64 y',.int .i64 a',.int .i64 b',.int .i64 d'] 27:=(by(with_reducible refine Blk.keep ?_ hb5);(repeat (first|with_reducible exact XX|with_reducible refine Blk.drew ?_|with_reducible refine Blk.alloc ?_ _)));have rr:=dE XX;have z_w5:=hb5.size;(try simp at z_w5);(try (refine aI (bk hb5 (w3.heap.size)) ?_ ?_;(focus (first|omega|(simp;done)|(simp;omega)));rintro⟨y_w5_q0,c_w5_q0,f_w5_q0,r_w5_q0,t_w5_q0,p_w5_q0⟩));(try (refine aI (bk hb5 (w4.heap.size)) ?_ ?_;(focus (first|omega|(simp;done)|(simp;omega)));rintro⟨y_w5_q1,c_w5_q1,f_w5_q1,r_w5_q1,t_w5_q1,p_w5_q1⟩))))
   all_goals go_wp2_with fail
   all_goals go_meet
   all_goals refine⟨_,rfl,rfl,(by first|omega|(simp;done)|(simp;omega)|fail),?_,?_⟩
   all_goals first
    | (show Below _ _ _;exact ad)
    | (show Blk _ _ _ _;apply Blk.of_eq;(focus (repeat (first|with_reducible exact Blk.new _ _ _|with_reducible apply Blk.drew|with_reducible apply Blk.ab|with_reducible apply Blk.keep (hb:=hb5)|with_reducible apply Blk.keep (hb:=hb4)|with_reducible apply Blk.alloc)));rfl)
  case rest =>
   obtain⟨g10,rfl,rfl,l10,HG,HBn⟩:=hcut;have Y0:=Lh (X0.out.keep HBn.out);have Y1:=Lh (X1.out.keep HBn.out);have Y2:=Lh (X2.out.keep HBn.out);have HB:=Lh (Below.trans HBW.out (HBn.out.mono HBW.out.size));have ly:=X2.out.lt;obtain⟨y0,c0,f0,-⟩:=aw Y0.out;obtain⟨y1,c1,f1,-⟩:=aw Y1.out;obtain⟨y2,c2,f2,-⟩:=aw Y2.out;obtain⟨y3,c3,f3,-⟩:=aw HG.out;have n0:¬ (g10=w.heap.size):=by omega
   have n1:¬ (g10=w.heap.size+1):=by omega
   have n2:¬ (g10=w.heap.size+1+1):=by omega
   have hbw:=HB.out;have bs:=hbw.size;clear HG HBn HBW X0 X1 X2;rcases UH.out with ⟨k0,hv⟩|⟨k0,k3,hv⟩|⟨k0,k3,hv⟩
   ·have EU:=Lh hv;have k0b:(kb==0)=false:=by simp[k0]
    clear hv UH;obtain⟨⟨s1,s2,s3,s4,s5,s6⟩,kr,hrg⟩:∃ o k,ringE ⟨x,y,a,b,d⟩ ⟨x',y',a',b',d'⟩ lo hi=(o,k):=⟨_,_,rfl⟩;obtain⟨⟨q1,q2,q3,q4,q5⟩,kc,hct⟩:∃ o k,gcutE ⟨x,y,a,b,d⟩ ⟨s1,s2,s3,s4,s5,s6⟩=(o,k):=⟨_,_,rfl⟩;have BC:=fH _ _ _ lo hi _ kr kc hrg hct;rw[← EU.out] at BC;have ERG:=Lh hrg;have ECT:=Lh hct;clear hrg hct EU;go_wp2_with fail;refine(rW _ _ _ _ _ _ _ _ _ _ _ _ _ _ _ _ _ _ _ ERG.out _).mono ?_;rintro e w5 ⟨rfl,hb5⟩;have z_w5:=hb5.size;(try simp at z_w5);have K_w5_0:=bq3 hb5 (w.heap.size);rcases BC with ⟨rfl,hv⟩|⟨rfl,rfl,hv⟩|⟨rfl,rfl,hv⟩|⟨rfl,hc0,hc3,hv⟩|⟨hr0,hr3,hv⟩
    ·have EV:=Lh hv;clear hv;go_wp2_with fail;exact rT 5 z5 (.int .i64 3) ⟨by rw[EV.out];rfl,ad⟩
    ·have EV:=Lh hv;clear hv;go_wp2_with fail;refine(jJ _ _ _ _ _ _ _ _ _ _ _ _ _ _ _ _ _ ECT.out _).mono ?_;rintro e w6 ⟨rfl,hb6⟩;have z_w6:=hb6.size;(try simp at z_w6);have K_w6_0:=bq3 hb6 (w.heap.size);go_wp2_with fail;exact rT 5 z5 (.int .i64 3) ⟨by rw[EV.out];rfl,ad⟩
    ·have EV:=Lh hv;clear hv;go_wp2_with fail;refine(jJ _ _ _ _ _ _ _ _ _ _ _ _ _ _ _ _ _ ECT.out _).mono ?_;rintro e w6 ⟨rfl,hb6⟩;have z_w6:=hb6.size;(try simp at z_w6);have K_w6_0:=bq3 hb6 (w.heap.size);go_wp2_with fail;exact rT 5 #[.int .i64 q1,.int .i64 q2,.int .i64 q3,.int .i64 q4,.int .i64 q5] (.int .i64 0) ⟨by rw[EV.out],ad⟩
    ·have EV:=Lh hv;clear hv;have hc0b:(kc==0)=false:=by simp[hc0]
     have hc3b:(kc==3)=false:=by simp[hc3]
     go_wp2_with fail;refine(jJ _ _ _ _ _ _ _ _ _ _ _ _ _ _ _ _ _ ECT.out _).mono ?_;rintro e w6 ⟨rfl,hb6⟩;have z_w6:=hb6.size;(try simp at z_w6);have K_w6_0:=bq3 hb6 (w.heap.size);go_wp2_with fail;exact rT 5 #[.int .i64 x,.int .i64 y,.int .i64 a,.int .i64 b,.int .i64 d] (.int .i64 0) ⟨by rw[EV.out],ad⟩
    ·have EV:=Lh hv;clear hv;have hr0b:(kr==0)=false:=by simp[hr0]
     have hr3b:(kr==3)=false:=by simp[hr3]
     go_wp2_with fail;exact rT 5 #[.int .i64 x,.int .i64 y,.int .i64 a,.int .i64 b,.int .i64 d] (.int .i64 0) ⟨by rw[EV.out],ad⟩
   ·subst k0;subst k3;have EV:=Lh hv;clear hv UH;go_wp2_with fail;refine(ur _ _ _ _ _ _ _ _ _ _ _ _ _ _ _ _ EF.out _).mono ?_;rintro e w4 ⟨rfl,hb4⟩;have z_w4:=hb4.size;(try simp at z_w4);have K_w4_0:=bq3 hb4 (w.heap.size);go_wp2_with fail;exact rT 5 z5 (.int .i64 3) ⟨by rw[EV.out];rfl,ad⟩
   ·subst k0;subst k3;have EU:=Lh hv;clear hv UH;go_wp2_with fail;refine(ur _ _ _ _ _ _ _ _ _ _ _ _ _ _ _ _ EF.out _).mono ?_;rintro e w4 ⟨rfl,hb4⟩;have z_w4:=hb4.size;(try simp at z_w4);have K_w4_0:=bq3 hb4 (w.heap.size);obtain⟨v5,hv5⟩:∃ v5,v5=((((((w4).setCell ⟨w.heap.size,0,none⟩ (.int .i64 fx)).setCell ⟨w.heap.size,1,none⟩ (.int .i64 fy)).setCell ⟨w.heap.size,2,none⟩ (.int .i64 fa)).setCell ⟨w.heap.size,3,none⟩ (.int .i64 fb)).setCell ⟨w.heap.size,4,none⟩ (.int .i64 fd)).alloc (Obj.cells #[.int .i64 fx,.int .i64 fy,.int .i64 fa,.int .i64 fb,.int .i64 fd] 27):=⟨_,rfl⟩;go_wp2_with fail;rw[← hv5];have Z0:Hid (Blk v5 w.heap.size #[.int .i64 fx,.int .i64 fy,.int .i64 fa,.int .i64 fb,.int .i64 fd] 27):=by rw[hv5];exact(((((((Y0.out.keep hb4).ab 0 _).ab 1 _).ab 2 _).ab 3 _).ab 4 _).of_eq rfl).alloc _
    have Z1:Hid (Blk v5 (w.heap.size+1) #[.int .i64 x',.int .i64 y',.int .i64 a',.int .i64 b',.int .i64 d'] 27):=by rw[hv5];exact(((((((Y1.out.keep hb4).ac (a:=⟨w.heap.size,0,none⟩) (by simp only;omega) _).ac (a:=⟨w.heap.size,1,none⟩) (by simp only;omega) _).ac (a:=⟨w.heap.size,2,none⟩) (by simp only;omega) _).ac (a:=⟨w.heap.size,3,none⟩) (by simp only;omega) _).ac (a:=⟨w.heap.size,4,none⟩) (by simp only;omega) _)).alloc _
    have Z2:Hid (Blk v5 (w.heap.size+1+1) #[.int .i64 0,.int .i64 0,.int .i64 0,.int .i64 0,.int .i64 0] 27):=by rw[hv5];exact(((((((Y2.out.keep hb4).ac (a:=⟨w.heap.size,0,none⟩) (by simp only;omega) _).ac (a:=⟨w.heap.size,1,none⟩) (by simp only;omega) _).ac (a:=⟨w.heap.size,2,none⟩) (by simp only;omega) _).ac (a:=⟨w.heap.size,3,none⟩) (by simp only;omega) _).ac (a:=⟨w.heap.size,4,none⟩) (by simp only;omega) _)).alloc _
    have HB5:Hid (Below w.heap.size w v5):=by rw[hv5];exact(show Below _ _ _ from ad)
    clear z_w4 K_w4_0;clear hbw hb4 y0 c0 f0 y1 c1 f1 y2 c2 f2 y3 c3 f3 hv5 Y0 Y1 Y2;obtain⟨y0,c0,f0,-⟩:=aw Z0.out;obtain⟨y1,c1,f1,-⟩:=aw Z1.out;obtain⟨y2,c2,f2,-⟩:=aw Z2.out;have hbw:=HB5.out;have bs5:=hbw.size;obtain⟨⟨s1,s2,s3,s4,s5,s6⟩,kr,hrg⟩:∃ o k,ringE ⟨fx,fy,fa,fb,fd⟩ ⟨x',y',a',b',d'⟩ lo hi=(o,k):=⟨_,_,rfl⟩;obtain⟨⟨q1,q2,q3,q4,q5⟩,kc,hct⟩:∃ o k,gcutE ⟨fx,fy,fa,fb,fd⟩ ⟨s1,s2,s3,s4,s5,s6⟩=(o,k):=⟨_,_,rfl⟩;have BC:=fH _ _ _ lo hi _ kr kc hrg hct;rw[← EU.out] at BC;have ERG:=Lh hrg;have ECT:=Lh hct;clear hrg hct EU;refine(rW _ _ _ _ _ _ _ _ _ _ _ _ _ _ _ _ _ _ _ ERG.out _).mono ?_;rintro e w6 ⟨rfl,hb6⟩;have z_w6:=hb6.size;(try simp at z_w6);have K_w6_0:=bq3 hb6 (w.heap.size);rcases BC with ⟨rfl,hv⟩|⟨rfl,rfl,hv⟩|⟨rfl,rfl,hv⟩|⟨rfl,hc0,hc3,hv⟩|⟨hr0,hr3,hv⟩
    ·have EV:=Lh hv;clear hv;go_wp2_with fail;exact rT 5 z5 (.int .i64 3) ⟨by rw[EV.out];rfl,ad⟩
    ·have EV:=Lh hv;clear hv;go_wp2_with fail;refine(jJ _ _ _ _ _ _ _ _ _ _ _ _ _ _ _ _ _ ECT.out _).mono ?_;rintro e w7 ⟨rfl,hb7⟩;have z_w7:=hb7.size;(try simp at z_w7);have K_w7_0:=bq3 hb7 (w.heap.size);go_wp2_with fail;exact rT 5 z5 (.int .i64 3) ⟨by rw[EV.out];rfl,ad⟩
    ·have EV:=Lh hv;clear hv;go_wp2_with fail;refine(jJ _ _ _ _ _ _ _ _ _ _ _ _ _ _ _ _ _ ECT.out _).mono ?_;rintro e w7 ⟨rfl,hb7⟩;have z_w7:=hb7.size;(try simp at z_w7);have K_w7_0:=bq3 hb7 (w.heap.size);go_wp2_with fail;exact rT 5 #[.int .i64 q1,.int .i64 q2,.int .i64 q3,.int .i64 q4,.int .i64 q5] (.int .i64 0) ⟨by rw[EV.out],ad⟩
    ·have EV:=Lh hv;clear hv;have hc0b:(kc==0)=false:=by simp[hc0]
     have hc3b:(kc==3)=false:=by simp[hc3]
     go_wp2_with fail;refine(jJ _ _ _ _ _ _ _ _ _ _ _ _ _ _ _ _ _ ECT.out _).mono ?_;rintro e w7 ⟨rfl,hb7⟩;have z_w7:=hb7.size;(try simp at z_w7);have K_w7_0:=bq3 hb7 (w.heap.size);go_wp2_with fail;exact rT 5 #[.int .i64 fx,.int .i64 fy,.int .i64 fa,.int .i64 fb,.int .i64 fd] (.int .i64 0) ⟨by rw[EV.out],ad⟩
    ·have EV:=Lh hv;clear hv;have hr0b:(kr==0)=false:=by simp[hr0]
     have hr3b:(kr==3)=false:=by simp[hr3]
     go_wp2_with fail;exact rT 5 #[.int .i64 fx,.int .i64 fy,.int .i64 fa,.int .i64 fb,.int .i64 fd] (.int .i64 0) ⟨by rw[EV.out],ad⟩
theorem CB (x y a b d x' y' a' b' d' lo hi o1 o2 o3 o4 o5 k:Int) (h:updE ⟨x,y,a,b,d⟩ ⟨x',y',a',b',d'⟩ lo hi=(⟨o1,o2,o3,o4,o5⟩,k)) (w:World) :
  Calls Tryz.prog 7 #[elC x y a b d,elC x' y' a' b' d',.int .i64 lo,.int .i64 hi] w fun e w'=>e = .returned (.tuple #[elC o1 o2 o3 o4 o5,.int .i64 k])∧Below w.heap.size w w':=by
 have:=E7 x y a b d x' y' a' b' d' lo hi w;rw[h] at this;exact this
def qj:Nat→Nat→Nat→Nat
 | 0,_,r=>r
 | k+1,n,r=>if (r+2^k)*(r+2^k)≤n then qj k n (r+2^k) else qj k n r
def rtF (n:Nat):Nat:=qj 64 n 0
theorem vk (k n r:Nat) (h1:r*r≤n) (h2:n<(r+2^k)*(r+2^k)):qj k n r*qj k n r≤n∧n<(qj k n r+1)*(qj k n r+1):=by
 induction k generalizing r with
 | zero=>exact⟨h1,h2⟩
 | succ k ih =>
  unfold qj;split
  ·rename_i h3;refine ih _ h3 ?_;have e:r+2^k+2^k=r+2^(k+1):=by rw[Nat.pow_succ];omega
   rw[e];exact h2
  ·rename_i h3;exact ih _ h1 (by omega)
theorem Fs (n:Nat) (h:n<340282366920938463463374607431768211456):rt n=rtF n:=by
 have:=vk 64 n 0 (by omega) (by rw[Nat.zero_add];exact Nat.lt_of_lt_of_le h (by decide));exact jA this.1 this.2
def upF (n:Nat):Nat:=if rtF n*rtF n<n then rtF n+1 else rtF n
theorem E8 (n:Nat) (h:n<340282366920938463463374607431768211456):up n=upF n:=by unfold up upF;rw [Fs n h]
def eK (e:El):Int:=(upF e.tr.toNat:Nat)
theorem tV (e:El):e.rad=eK e:=by
 have:=e.wY;unfold El.rad eK;rw[E8 _ (by omega)]
def oM (e f:El):El:=⟨e.x+f.x,e.y+f.y,cdiv ((eK e+eK f)*e.a) (eK e)+cdiv ((eK e+eK f)*f.a) (eK f)+2,((eK e+eK f)*e.b).fdiv (eK e)+((eK e+eK f)*f.b).fdiv (eK f),cdiv ((eK e+eK f)*e.d) (eK e)+cdiv ((eK e+eK f)*f.d) (eK f)+2⟩
theorem Ak (e f:El):dV e f=oM e f:=by unfold dV oM;rw [tV,tV]
def xe (e f:El):El × Int:=if e.may=true∧f.may=true then (if (oM e f).may=true then (oM e f,0) else (El.zero,2)) else (El.zero,1)
theorem Fc (e f:El):sumE e f=xe e f:=by unfold sumE xe;rw [Ak]
def sV (e:El) (r:Int):El × Int:=if e.may=true∧0≤r∧r≤4194304 then (if r=0 then (e,0) else xe e (ballE 0 0 r).1) else (El.zero,1)
theorem DV (e:El) (r:Int):growE e r=sV e r:=by unfold growE sV;rw [Fc]
def pJ (cx cy a b d e:Int):El × Int :=
 if e≠0∨70368744177664≤a∨70368744177664≤d then (El.zero,2)
 else if El.may ⟨cx,cy,a+1,b,d+1⟩=true then sV ⟨cx,cy,a+1,b,d+1⟩ 1 else (El.zero,2)
theorem yL (cx cy a b d e:Int):cm cx cy a b d e=pJ cx cy a b d e:=by unfold cm pJ;rw [DV]
def yK (i:Iq):El × Int :=
 if i.A≤0∨i.d≤0 then (El.zero,1)
 else if i.lv<0 then (El.zero,3)
 else pJ (cf i.x i.d).1 (cf i.y i.d).1 (cD (i.lv*i.D) (i.d*i.d)).1 (db (-(i.lv*i.B)) (i.d*i.d)).1 (cD (i.lv*i.A) (i.d*i.d)).1
  (max (max (max (max (max 0 (cf i.x i.d).2) (cf i.y i.d).2) (cD (i.lv*i.D) (i.d*i.d)).2) (cD (i.lv*i.A) (i.d*i.d)).2) (db (-(i.lv*i.B)) (i.d*i.d)).2)
theorem FH (i:Iq):ellI i=yK i:=by unfold ellI yK;rw [yL]
def kW (i j:Iq) (k bad:Int):El × Int:=if bad=0 then (if (mixQ i j k).2=0 then yK (mixQ i j k).1 else (El.zero,1)) else (El.zero,1)
theorem ue (i j:Iq) (k bad:Int):bU i j k bad=kW i j k bad:=by unfold bU kW;rw [FH]
def sZ (e f:El) (k:Int):El × Int:=kW (ofE e).1 (ofE f).1 k (max (ofE e).2 (ofE f).2)
def yT (e:El) (s:St) (k:Int):El × Int:=kW (ofE e).1 (ofSt s).1 k (max (ofE e).2 (ofSt s).2)
theorem D1 (e f:El):fuseE e f=sZ e f:=by funext k;unfold fuseE sZ;rw [ue]
theorem FN (e:El) (s:St):cutE e s=yT e s:=by funext k;unfold cutE yT;rw [ue]
def ut (e f:El):El × Int:=if e.may=true∧f.may=true then foundE e (sZ e f) [f] else (El.zero,1)
def mJ (e:El) (s:St):El × Int:=if e.may=true∧s.may=true then foundE e (yT e s) [] else (El.zero,1)
theorem Bv (e f:El):gfuseE e f=ut e f:=by unfold gfuseE ut;rw [D1]
theorem DW (e:El) (s:St):gcutE e s=mJ e s:=by unfold gcutE mJ;rw [FN]
def u7 (z:Int):Int:=(upF z.toNat:Nat)
def Dj (z:Int):Int:=(rtF z.toNat:Nat)
theorem wX (z:Int) (h:z<340282366920938463463374607431768211456):upI z=u7 z:=by unfold upI u7;rw [E8 _ (by omega)]
theorem Fu (z:Int) (h:z<340282366920938463463374607431768211456):rtI z=Dj z:=by unfold rtI Dj;rw [Fs _ (by omega)]
def oW (h w k m:Int):Int:=if 0<h-w∧0<h*(m*m)-k*k then max (h-w) (Dj (h*(m*m)-k*k)) else h-w
def oX (h w far:Int):Int:=min (h+w) (u7 (h*(far*far)))
def iB (e n:El) (lo hi:Int):St × Int :=
 if e.may=true∧n.may=true∧aJ lo hi=true then
  if e.x-n.x=0∧e.y-n.y=0 then (⟨0,0,0,0,0,0⟩,7)
  else dt n.x n.y (e.x-n.x) (e.y-n.y)
   (oW ((e.x-n.x)*(e.x-n.x)+(e.y-n.y)*(e.y-n.y)) (u7 (form e.a e.b e.d (e.x-n.x) (e.y-n.y))) (u7 (form e.a e.b e.d (-(e.y-n.y)) (e.x-n.x))) (max 0 (lo-eK n)))
   (oX ((e.x-n.x)*(e.x-n.x)+(e.y-n.y)*(e.y-n.y)) (u7 (form e.a e.b e.d (e.x-n.x) (e.y-n.y))) (hi+eK n))
 else (⟨0,0,0,0,0,0⟩,1)
theorem oo (h m:Int) (hh:0≤h∧h≤140737488355328) (hm:0≤m∧m≤33554432):h*(m*m)≤158456325028528675187087900672:=by
 have q:=Int.mul_nonneg hm.1 hm.1;have q2:m*m≤33554432*33554432:=Int.mul_le_mul hm.2 hm.2 hm.1 (by decide);have q3:h*(m*m)≤140737488355328*(33554432*33554432):=Int.mul_le_mul hh.2 q2 q (by decide);omega
theorem Dq (e n:El) (lo hi:Int):ringE e n lo hi=iB e n lo hi:=by
 unfold ringE iB;by_cases hv:e.may=true∧n.may=true∧aJ lo hi=true
 ·rw[if_pos hv,if_pos hv];obtain⟨he,hn,hr⟩:=hv;have r:=(dj _ _).1 hr;have c:=jn e n he hn;have m:=((El.aQ e).1 he).2.1;have rl:=n.fg;have r0:=eR n;rw[← tV];have f1:=d5 e.a e.b e.d (e.x-n.x) (e.y-n.y) (by omega) (by omega) (by omega) c.1 c.2;have f2:=d5 e.a e.b e.d (-(e.y-n.y)) (e.x-n.x) (by omega) (by omega) (by omega) (by omega) c.1;have q1:=sqb (e.x-n.x) 8388608 (by omega) (by omega);have q2:=sqb (e.y-n.y) 8388608 (by omega) (by omega);rw[← wX _ (by omega),← wX _ (by omega)]
  have a1:∀ w k,ringLo ((e.x-n.x)*(e.x-n.x)+(e.y-n.y)*(e.y-n.y)) w k (max 0 (lo-n.rad))=oW ((e.x-n.x)*(e.x-n.x)+(e.y-n.y)*(e.y-n.y)) w k (max 0 (lo-n.rad)):=by
   intro w k;unfold ringLo oW;have:=oo ((e.x-n.x)*(e.x-n.x)+(e.y-n.y)*(e.y-n.y)) (max 0 (lo-n.rad)) (by omega) (by omega);have:=ax k;rw[Fu _ (by omega)]
  have a2:∀ w,ringHi ((e.x-n.x)*(e.x-n.x)+(e.y-n.y)*(e.y-n.y)) w (hi+n.rad)=oX ((e.x-n.x)*(e.x-n.x)+(e.y-n.y)*(e.y-n.y)) w (hi+n.rad):=by
   intro w;unfold ringHi oX;have:=oo ((e.x-n.x)*(e.x-n.x)+(e.y-n.y)*(e.y-n.y)) (hi+n.rad) (by omega) (by omega);rw[wX _ (by omega)]
  rw[a1,a2]
 ·rw[if_neg hv,if_neg hv]
def CC (e n:El) (lo hi:Int):El × Int :=
 if (iB e n lo hi).2=3 then (El.zero,3)
 else if (iB e n lo hi).2=0 then (if (mJ e (iB e n lo hi).1).2=3 then (El.zero,3) else if (mJ e (iB e n lo hi).1).2=0 then ((mJ e (iB e n lo hi).1).1,0) else (e,0))
 else (e,0)
theorem C7 (e n:El) (lo hi:Int):iQ e n lo hi=CC e n lo hi:=by unfold iQ CC;rw [Dq,DW]
theorem Cc:El.rad ⟨0,0,1,0,1⟩=2:=by rw [tV];kernel_rfl
theorem zy:gfuseE ⟨100,0,2500,0,2500⟩ ⟨0,0,8836,0,8836⟩=(⟨82,0,2268,0,2268⟩,0):=by rw [Bv];kernel_rfl
theorem Ce:iQ ⟨82,0,2268,0,2268⟩ ⟨0,0,1,0,1⟩ 90 92=(⟨84,0,595,0,2783⟩,0):=by rw [C7];kernel_rfl
theorem B3:updE ⟨100,0,2500,0,2500⟩ ⟨0,0,1,0,1⟩ 90 92=(⟨84,0,595,0,2783⟩,0):=by
 have hb:ballE 0 0 (92+El.rad ⟨0,0,1,0,1⟩)=(⟨0,0,8836,0,8836⟩,0):=by rw[Cc];rfl
 unfold updE;rw[if_pos ⟨by decide,by decide,by decide⟩,hb];simp only;rw[zy];simp only[if_true];rw[if_neg (by decide)];exact Ce
theorem Ep:El.has ⟨84,0,595,0,2783⟩ 91 0=true:=by decide
theorem zx (w:World):Calls Tryz.prog 11 #[] w fun e w'=>e = .returned (.bool true)∧Below w.heap.size w w':=by
 have h1:Hid (ballE 100 0 50=(⟨100,0,2500,0,2500⟩,0)):=show _=_ from rfl;have h2:Hid (ballE 0 0 1=(⟨0,0,1,0,1⟩,0)):=show _=_ from rfl;have h3:=Lh B3;have h4:=Lh Ep;go_enter Tryz.func11,Tryz.ntmps11;go_wp2_with fail;refine(fE _ _ _ _ _ _ _ _ _ h1.out _).mono ?_;rintro e w1 ⟨rfl,hb1⟩;have z1:=hb1.size;go_wp2_with fail;refine(fE _ _ _ _ _ _ _ _ _ h2.out _).mono ?_;rintro e w2 ⟨rfl,hb2⟩;have z_w2:=hb2.size;(try simp at z_w2);have Kw2aa:=bq hb2 (w1.heap.size);go_wp2_with fail;refine(CB _ _ _ _ _ _ _ _ _ _ _ _ _ _ _ _ _ _ h3.out _).mono ?_;rintro e w3 ⟨rfl,hb3⟩;have z_w3:=hb3.size;(try simp at z_w3);have Kw3aa:=bq hb3 (w1.heap.size);go_wp2_with fail;refine(BI _ _ _ _ _ _ _ _ h4.out _).mono ?_;rintro e w4 ⟨rfl,hb4⟩;have z4:=hb4.size;go_wp2_with fail;go_ret;exact⟨rfl,ad⟩
end Go.Proofs.YtnoidlacjiafdaaGreat
