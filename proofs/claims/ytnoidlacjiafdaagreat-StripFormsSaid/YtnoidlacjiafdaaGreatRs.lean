/- The walks of the document's Floor, Ceil, Near. -/
import Derived.Deep.Cut
import Derived.Deep.RegionHeld3
import Derived.Test.YtnoidlacjiafdaaGreatY4
namespace Go.Proofs.YtnoidlacjiafdaaGreat
set_option maxRecDepth 100000
set_option maxHeartbeats 16000000
set_option linter.unusedSimpArgs false
set_option linter.unusedVariables false
open Go.RowKit
theorem ap.flags {w:World} {n o:Bool} {s:Value} {x:WI} (h:ap w (.agg #[.bool n,.bool o,s]) x):n=x.ng∧o=x.ov:=by
 obtain⟨s',e,-⟩:=h;injection e with e
 have:=congrArg Array.toList e;simp at this;exact⟨this.1,this.2.1⟩
theorem yP {x y p:WI} {a:Int} (h:Hid (x.div y=(p,a))) {u v:Value} {w:World} (hx:ap w u x) (hy:ap w v y):Calls Tryz.prog 120 #[u,v] w fun e w'=>(∃ v,e = .returned (.tuple #[v,.int .i64 a])∧ap w' v p)∧Below w.heap.size w w':=by
 have:=tB u v x y w hx hy;rwa [h.out] at this
theorem mF {x:WI} {a:Int} {b:Bool} (h:Hid (x.i64=(a,b))) {u:Value} {w:World} (hx:ap w u x):Calls Tryz.prog 84 #[u] w fun e w'=>e = .returned (.tuple #[.int .i64 a,.bool b])∧Below w.heap.size w w':=by
 have:=lc u x w hx;rwa [h.out] at this
theorem d8 {x:WI} {a:Int} (h:Hid (x.sign=a)) {u:Value} {w:World} (hx:ap w u x):Calls Tryz.prog 29 #[u] w fun e w'=>e = .returned (.int .i64 a)∧Below w.heap.size w w':=by
 have:=xj u x w hx;rwa [h.out] at this
theorem sC {x z:WI} (h:Hid (x.neg=z)) {u:Value} {w:World} (hx:ap w u x):Calls Tryz.prog 60 #[u] w fun e w'=>(∃ v,e = .returned v∧ap w' v z)∧Below w.heap.size w w':=by
 rw[← h.out];exact uc u x w hx
theorem dI {w:World} {g:Nat} {n o:Bool} {A:Option Addr} {l k:Nat} {t:TypeId} (B:Blk w g #[.bool n,.bool o,.slice A l k] t):w.cell? ⟨g,0,none⟩=some (.bool n)∧w.cell? ⟨g,1,none⟩=some (.bool o)∧w.cell? ⟨g,2,none⟩=some (.slice A l k):=⟨B.cell rfl,B.cell rfl,B.cell rfl⟩
theorem jM {x y:WI} (h:x.ov=true∨y.ov=true):fitV x y=2:=by unfold fitV;rw [if_pos h]
theorem tj {x y:WI} (h1:x.ov=false) (h2:y.ov=false) (h:y.sign≤0):fitV x y=1:=by unfold fitV;rw [if_neg (by rw [h1,h2];simp),if_pos h]
theorem tk {x y:WI} (h1:x.ov=false) (h2:y.ov=false) (h:¬ y.sign≤0):fitV x y=0:=by unfold fitV;rw [if_neg (by rw [h1,h2];simp),if_neg h]
theorem An {y:WI} (h:¬ y.sign≤0):y.sz≠0:=by
 intro e;apply h;unfold WI.sign;unfold WI.sz at e;cases hv:y.v with
 | none=>simp
 | some a =>
  rw[hv] at e;simp only at e;have:a=0:=by omega
  subst this;decide
theorem uH {x y:WI} (h1:x.ov=false) (h2:y.ov=false) (h:¬ y.sign≤0):(x.div y).2=0:=by rw [WI.div_some x y h1 h2 (An h)]
theorem WI.DJ (x:WI):x.neg.ov=x.ov:=by
 unfold WI.neg;cases hv:x.v with
 | none=>unfold WI.ov;rw[hv];rfl
 | some a =>
  simp only;unfold WI.ov;rw[WI.of_v (by rw[Int.natAbs_neg];exact x.2 a hv),hv];rfl
theorem yC (a b:Value) (x y:WI) (w:World) (ha:ap w a x) (hb:ap w b y) :
  Calls Tryz.prog 64 #[a,b] w fun e w'=>e = .returned (.tuple #[.int .i64 (floorV x y).1,.int .i64 (floorV x y).2])∧Below w.heap.size w w':=by
 obtain⟨na,oa,Aa,la,ka,rfl,ha⟩:=ha.aq;have Ca:=Lh ha;clear ha;obtain⟨nb,ob,Ab,lb,kb,rfl,hb⟩:=hb.aq;have Cb:=Lh hb;clear hb;obtain⟨-,hoa⟩:=Ca.out.flags;obtain⟨-,hob⟩:=Cb.out.flags;clear ha hb;obtain⟨sg,hsg⟩:∃ s,y.sign=s:=⟨_,rfl⟩;have HSG:=Lh hsg;cases hx:x.ov with
 | true =>
  rw[hx] at hoa;subst hoa;have EV:Hid (floorV x y=(0,2)):=by show _=_;unfold floorV;rw[jM (.inl hx),if_pos (by decide)]
  clear hsg;go_enter Tryz.func64,Tryz.ntmps64;go_wp2_with fail;go_ret2
  exact⟨by rw[EV.out];rfl,ae⟩
 | false =>
  rw[hx] at hoa;subst hoa;cases hy:y.ov with
  | true =>
   rw[hy] at hob;subst hob;have EV:Hid (floorV x y=(0,2)):=by show _=_;unfold floorV;rw[jM (.inr hy),if_pos (by decide)]
   clear hsg;go_enter Tryz.func64,Tryz.ntmps64;go_wp2_with fail;go_ret2
   exact⟨by rw[EV.out];rfl,ae⟩
  | false =>
   rw[hy] at hob;subst hob;by_cases hs:y.sign≤0
   ·have EV:Hid (floorV x y=(0,1)):=by show _=_;unfold floorV;rw[tj hx hy hs,if_pos (by decide)]
    rw[hsg] at hs;clear hsg hx hy;go_enter Tryz.func64,Tryz.ntmps64;go_wp2_with fail;obtain⟨u0,hu0⟩:∃ u,u=((w).alloc (Obj.cells #[.bool na,.bool false,.slice Aa la ka] 52)).alloc (Obj.cells #[.bool nb,.bool false,.slice Ab lb kb] 52):=⟨_,rfl⟩;rw[← hu0];have HB:=hB2 hu0;have X0:=b20 hu0;have X1:=b21 hu0;replace Ca:=Bp Ca HB.out;replace Cb:=Bp Cb HB.out;clear hu0;refine Calls.mono (d8 HSG Cb.out) ?_;rintro e x1 ⟨rfl,hb⟩;replace X0:=Kp X0 hb;replace X1:=Kp X1 hb;replace Ca:=Lh (Ca.out.below hb);replace Cb:=Lh (Cb.out.below hb);replace HB:=Tp HB hb;clear hb;go_wp2_with fail;go_ret2
    exact⟨by rw[EV.out];rfl,HB.out⟩
   ·obtain⟨q,hq⟩:∃ q,x.div y=(q,0):=⟨(x.div y).1,by rw[← uH hx hy hs]⟩;have HQ:=Lh hq;obtain⟨n,ok,hn⟩:∃ n ok,q.i64=(n,ok):=⟨_,_,rfl⟩;have HN:=Lh hn;have EV:Hid (floorV x y=if ok=true then (n,0) else (0,2)):=by show _=_;unfold floorV aV;rw[tk hx hy hs,if_neg (by decide),hq,if_neg (by simp),hn]
    rw[hsg] at hs;clear hsg hx hy hq hn;go_enter Tryz.func64,Tryz.ntmps64;go_wp2_with fail;obtain⟨u0,hu0⟩:∃ u,u=((w).alloc (Obj.cells #[.bool na,.bool false,.slice Aa la ka] 52)).alloc (Obj.cells #[.bool nb,.bool false,.slice Ab lb kb] 52):=⟨_,rfl⟩;rw[← hu0];have HB:=hB2 hu0;have X0:=b20 hu0;have X1:=b21 hu0;replace Ca:=Bp Ca HB.out;replace Cb:=Bp Cb HB.out;clear hu0;refine Calls.mono (d8 HSG Cb.out) ?_;rintro e x1 ⟨rfl,hb⟩;replace X0:=Kp X0 hb;replace X1:=Kp X1 hb;replace Ca:=Lh (Ca.out.below hb);replace Cb:=Lh (Cb.out.below hb);replace HB:=Tp HB hb;clear hb;obtain⟨qX0_0,qX0_1,qX0_2⟩:=cl3 X0;have rl_X0:=X0.out.lt;obtain⟨qX1_0,qX1_1,qX1_2⟩:=cl3 X1;have rl_X1:=X1.out.lt;go_wp2_with fail;clear qX0_0 qX0_1 qX0_2 rl_X0 qX1_0 qX1_1 qX1_2 rl_X1;refine Calls.mono (yP HQ Ca.out Cb.out) ?_;rintro e x2 ⟨⟨v,rfl,hv⟩,hb⟩;obtain⟨nq,oq,Aq,lq,kq,rfl,hqq⟩:=hv.aq;have Cq:=Lh hqq;clear hv hqq;replace X0:=Kp X0 hb;replace X1:=Kp X1 hb;replace Ca:=Lh (Ca.out.below hb);replace Cb:=Lh (Cb.out.below hb);replace HB:=Tp HB hb;clear hb;go_wp2_with fail;obtain⟨u3,hu⟩:∃ u,u=x2.alloc (Obj.cells #[.bool nq,.bool oq,.slice Aq lq kq] 52):=⟨_,rfl⟩;rw[← hu];obtain⟨gX2,hg⟩:∃ g,x2.heap.size=g:=⟨_,rfl⟩;have lt_X0_X2:w.heap.size<gX2:=by rw[← hg];exact X0.out.lt
    have lt_X1_X2:w.heap.size+1<gX2:=by rw[← hg];exact X1.out.lt
    have gw_X2:w.heap.size≤gX2:=by rw[← hg];exact HB.out.size
    have hb:=ba hu;replace X0:=Kp X0 hb;replace X1:=Kp X1 hb;replace Ca:=Lh (Ca.out.below hb);replace Cb:=Lh (Cb.out.below hb);replace Cq:=Lh (Cq.out.below hb);replace HB:=Tp HB hb;clear hb;have X2:=bn hu hg;rw[hg];clear hu hg;refine Calls.mono (mF HN Cq.out) ?_;rintro e x4 ⟨rfl,hb⟩;replace X0:=Kp X0 hb;replace X1:=Kp X1 hb;replace X2:=Kp X2 hb;replace Ca:=Lh (Ca.out.below hb);replace Cb:=Lh (Cb.out.below hb);replace Cq:=Lh (Cq.out.below hb);replace HB:=Tp HB hb;clear hb;cases ok with
    | true =>
     go_wp2_with fail;go_ret2
     exact⟨by rw[EV.out];rfl,HB.out⟩
    | false =>
     go_wp2_with fail;go_ret2
     exact⟨by rw[EV.out];rfl,HB.out⟩
theorem BU (a b:Value) (x y:WI) (w:World) (ha:ap w a x) (hb:ap w b y) :
  Calls Tryz.prog 63 #[a,b] w fun e w'=>e = .returned (.tuple #[.int .i64 (bP x y).1,.int .i64 (bP x y).2])∧Below w.heap.size w w':=by
 obtain⟨na,oa,Aa,la,ka,rfl,ha⟩:=ha.aq;have Ca:=Lh ha;clear ha;obtain⟨nb,ob,Ab,lb,kb,rfl,hb⟩:=hb.aq;have Cb:=Lh hb;clear hb;obtain⟨-,hoa⟩:=Ca.out.flags;obtain⟨-,hob⟩:=Cb.out.flags;clear ha hb;obtain⟨sg,hsg⟩:∃ s,y.sign=s:=⟨_,rfl⟩;have HSG:=Lh hsg;cases hx:x.ov with
 | true =>
  rw[hx] at hoa;subst hoa;have EV:Hid (bP x y=(0,2)):=by show _=_;unfold bP;rw[jM (.inl hx),if_pos (by decide)]
  clear hsg;go_enter Tryz.func63,Tryz.ntmps63;go_wp2_with fail;go_ret2
  exact⟨by rw[EV.out];rfl,ae⟩
 | false =>
  rw[hx] at hoa;subst hoa;cases hy:y.ov with
  | true =>
   rw[hy] at hob;subst hob;have EV:Hid (bP x y=(0,2)):=by show _=_;unfold bP;rw[jM (.inr hy),if_pos (by decide)]
   clear hsg;go_enter Tryz.func63,Tryz.ntmps63;go_wp2_with fail;go_ret2
   exact⟨by rw[EV.out];rfl,ae⟩
  | false =>
   rw[hy] at hob;subst hob;by_cases hs:y.sign≤0
   ·have EV:Hid (bP x y=(0,1)):=by show _=_;unfold bP;rw[tj hx hy hs,if_pos (by decide)]
    rw[hsg] at hs;clear hsg hx hy;go_enter Tryz.func63,Tryz.ntmps63;go_wp2_with fail;obtain⟨u0,hu0⟩:∃ u,u=((w).alloc (Obj.cells #[.bool na,.bool false,.slice Aa la ka] 52)).alloc (Obj.cells #[.bool nb,.bool false,.slice Ab lb kb] 52):=⟨_,rfl⟩;rw[← hu0];have HB:=hB2 hu0;have X0:=b20 hu0;have X1:=b21 hu0;replace Ca:=Bp Ca HB.out;replace Cb:=Bp Cb HB.out;clear hu0;refine Calls.mono (d8 HSG Cb.out) ?_;rintro e x1 ⟨rfl,hb⟩;replace X0:=Kp X0 hb;replace X1:=Kp X1 hb;replace Ca:=Lh (Ca.out.below hb);replace Cb:=Lh (Cb.out.below hb);replace HB:=Tp HB hb;clear hb;go_wp2_with fail;go_ret2
    exact⟨by rw[EV.out];rfl,HB.out⟩
   ·obtain⟨x2,hx2⟩:∃ z,x.neg=z:=⟨_,rfl⟩;have HX2:=Lh hx2;have ho2:x2.ov=false:=by rw[← hx2,WI.DJ,hx]
    obtain⟨q,hq⟩:∃ q,x2.div y=(q,0):=⟨(x2.div y).1,by rw[← uH ho2 hy hs]⟩;have HQ:=Lh hq;obtain⟨q2,hq2⟩:∃ z,q.neg=z:=⟨_,rfl⟩;have HQ2:=Lh hq2;obtain⟨n,ok,hn⟩:∃ n ok,q2.i64=(n,ok):=⟨_,_,rfl⟩;have HN:=Lh hn;have EV:Hid (bP x y=if ok=true then (n,0) else (0,2)):=by show _=_;unfold bP aV dh;rw[tk hx hy hs,if_neg (by decide),hx2,hq,if_neg (by simp),hq2,hn]
    rw[hsg] at hs;clear hsg hx hy hq hn hx2 hq2 ho2;go_enter Tryz.func63,Tryz.ntmps63;go_wp2_with fail;obtain⟨u0,hu0⟩:∃ u,u=((w).alloc (Obj.cells #[.bool na,.bool false,.slice Aa la ka] 52)).alloc (Obj.cells #[.bool nb,.bool false,.slice Ab lb kb] 52):=⟨_,rfl⟩;rw[← hu0];have HB:=hB2 hu0;have X0:=b20 hu0;have X1:=b21 hu0;replace Ca:=Bp Ca HB.out;replace Cb:=Bp Cb HB.out;clear hu0;refine Calls.mono (d8 HSG Cb.out) ?_;rintro e x1 ⟨rfl,hb⟩;replace X0:=Kp X0 hb;replace X1:=Kp X1 hb;replace Ca:=Lh (Ca.out.below hb);replace Cb:=Lh (Cb.out.below hb);replace HB:=Tp HB hb;clear hb;go_wp2_with fail;go_cut [6,7] from 10 (fun s6 s7 wc=>∃ g n o A l k,s6 = .pointer (some ⟨g,0,none⟩)∧s7 = .int .i64 0∧x1.heap.size≤g∧Hid (Blk wc g #[.bool n,.bool o,.slice A l k] 52)∧Hid (ap wc (.agg #[.bool n,.bool o,.slice A l k]) q)∧Hid (Below x1.heap.size x1 wc))
    case first =>
     have z0:=X0.out.lt;have z1:=X1.out.lt;have XX:Blk x1 w.heap.size #[.bool na,.bool false,.slice Aa la ka] 52:=X0.out;have XU:Blk x1 (w.heap.size+1) #[.bool nb,.bool false,.slice Ab lb kb] 52:=X1.out;have r1:=dI XX;have r2:=dI XU
     go_region_held3 (fun w'=>(w'.cell? ⟨w.heap.size,0,none⟩=some (.bool na)∧w'.cell? ⟨w.heap.size,1,none⟩=some (.bool false)∧w'.cell? ⟨w.heap.size,2,none⟩=some (.slice Aa la ka))∧(w'.cell? ⟨w.heap.size+1,0,none⟩=some (.bool nb)∧w'.cell? ⟨w.heap.size+1,1,none⟩=some (.bool false)∧w'.cell? ⟨w.heap.size+1,2,none⟩=some (.slice Ab lb kb))) (first|with_reducible exact⟨r1,r2⟩|(refine⟨?_,?_⟩;(focus (with_reducible refine dI (t:=52) ?_;(repeat (first|with_reducible exact XX|with_reducible refine Blk.drew ?_|with_reducible refine Blk.alloc ?_ _))));(focus (with_reducible refine dI (t:=52) ?_;(repeat (first|with_reducible exact XU|with_reducible refine Blk.drew ?_|with_reducible refine Blk.alloc ?_ _))));done)|go_simp)
      (first
       | (go_at_call 60;refine Calls.mono (sC HX2 (Ca.out.below ad)) ?_;rintro e w4 ⟨⟨v4,rfl,hv4⟩,hb4⟩;obtain⟨nx,ox,Ax,lx,kx,rfl,hxx⟩:=hv4.aq;have XX:Blk w4 w.heap.size #[.bool na,.bool false,.slice Aa la ka] 52:=(by(with_reducible refine Blk.keep ?_ hb4);(repeat (first|with_reducible exact XX|with_reducible refine Blk.drew ?_|with_reducible refine Blk.alloc ?_ _)));have XU:Blk w4 (w.heap.size+1) #[.bool nb,.bool false,.slice Ab lb kb] 52:=(by(with_reducible refine Blk.keep ?_ hb4);(repeat (first|with_reducible exact XU|with_reducible refine Blk.drew ?_|with_reducible refine Blk.alloc ?_ _)));have r1:=dI XX;have r2:=dI XU;have z_w4:=hb4.size;(try simp at z_w4);(try (refine aI (bk hb4 (x1.heap.size)) ?_ ?_;(focus (first|omega|(simp;done)|(simp;omega)));rintro⟨y_w4_q0,c_w4_q0,f_w4_q0,r_w4_q0,t_w4_q0,p_w4_q0⟩)))
       | (go_at_call 120;refine Calls.mono (yP HQ (ap.below hxx ad) (Cb.out.below ad)) ?_;rintro e w5 ⟨⟨v5,rfl,hv5⟩,hb5⟩;obtain⟨nq,oq,Aq,lq,kq,rfl,hqq⟩:=hv5.aq;have XX:Blk w5 w.heap.size #[.bool na,.bool false,.slice Aa la ka] 52:=(by(with_reducible refine Blk.keep ?_ hb5);(repeat (first|with_reducible exact XX|with_reducible refine Blk.drew ?_|with_reducible refine Blk.alloc ?_ _)));have XU:Blk w5 (w.heap.size+1) #[.bool nb,.bool false,.slice Ab lb kb] 52:=(by(with_reducible refine Blk.keep ?_ hb5);(repeat (first|with_reducible exact XU|with_reducible refine Blk.drew ?_|with_reducible refine Blk.alloc ?_ _)));have r1:=dI XX;have r2:=dI XU;have z_w5:=hb5.size;(try simp at z_w5);(try (refine aI (bk hb5 (x1.heap.size)) ?_ ?_;(focus (first|omega|(simp;done)|(simp;omega)));rintro⟨y_w5_q0,c_w5_q0,f_w5_q0,r_w5_q0,t_w5_q0,p_w5_q0⟩));(try (refine aI (bk hb5 (w4.heap.size)) ?_ ?_;(focus (first|omega|(simp;done)|(simp;omega)));rintro⟨y_w5_q1,c_w5_q1,f_w5_q1,r_w5_q1,t_w5_q1,p_w5_q1⟩))))
     all_goals go_wp2_with fail
     all_goals go_meet
     rotate_left 2
     ·have BN:=((Blk.new x1 #[.bool false,.bool false,.slice none 0 0] 52).drew.keep hb4).keep hb5;refine⟨_,_,_,_,_,_,rfl,rfl,?_,Lh (BN.set3 _ _ _),Lh ?_,Lh ?_⟩
      ·omega
      ·exact(hqq.only (ah.refl.set3 _ _ _) BN (fT _ _ _ _ _))
      ·exact ad
     ·refine⟨_,_,_,_,_,_,rfl,rfl,?_,Lh (Blk.new w5 _ _),Lh (hqq.below ((Below.refl _ _).alloc (Nat.le_refl _) _)),Lh ?_⟩
      ·omega
      ·exact ad
     ·have BN:=(Blk.new w4 #[.bool false,.bool false,.slice none 0 0] 52).keep hb5;refine⟨_,_,_,_,_,_,rfl,rfl,?_,Lh (BN.set3 _ _ _),Lh ?_,Lh ?_⟩
      ·omega
      ·exact(hqq.only (ah.refl.set3 _ _ _) BN (fT _ _ _ _ _))
      ·exact ad
    case rest =>
     obtain⟨gX2,nq,oq,Aq,lq,kq,rfl,rfl,lg,BH,hCq,HC⟩:=hcut;have hb:=HC.out;clear HC;replace X0:=Kp X0 hb;replace X1:=Kp X1 hb;replace Ca:=Lh (Ca.out.below hb);replace Cb:=Lh (Cb.out.below hb);replace HB:=Tp HB hb;clear hb;have Cq:=hCq;have X2:=BH;clear hCq BH;obtain⟨qX2_0,qX2_1,qX2_2⟩:=cl3 X2;have rl_X2:=X2.out.lt;go_wp2_with fail;clear qX2_0 qX2_1 qX2_2 rl_X2;refine Calls.mono (sC HQ2 Cq.out) ?_;rintro e x2 ⟨⟨v,rfl,hv⟩,hb⟩;obtain⟨ny,oy,Ay,ly,ky,rfl,hy⟩:=hv.aq;have Cy:=Lh hy;clear hv hy;replace X0:=Kp X0 hb;replace X1:=Kp X1 hb;replace X2:=Kp X2 hb;replace Ca:=Lh (Ca.out.below hb);replace Cb:=Lh (Cb.out.below hb);replace Cq:=Lh (Cq.out.below hb);replace HB:=Tp HB hb;clear hb;go_wp2_with fail;refine Calls.mono (mF HN Cy.out) ?_;rintro e x3 ⟨rfl,hb⟩;replace X0:=Kp X0 hb;replace X1:=Kp X1 hb;replace X2:=Kp X2 hb;replace Ca:=Lh (Ca.out.below hb);replace Cb:=Lh (Cb.out.below hb);replace Cq:=Lh (Cq.out.below hb);replace Cy:=Lh (Cy.out.below hb);replace HB:=Tp HB hb;clear hb;cases ok with
     | true =>
      go_wp2_with fail;go_ret2
      exact⟨by rw[EV.out];rfl,HB.out⟩
     | false =>
      go_wp2_with fail;go_ret2
      exact⟨by rw[EV.out];rfl,HB.out⟩
theorem gy {x y:WI} {n e:Int} (h:Hid (floorV x y=(n,e))) {a b:Value} {w:World} (ha:ap w a x) (hb:ap w b y) :
  Calls Tryz.prog 64 #[a,b] w fun r w'=>r = .returned (.tuple #[.int .i64 n,.int .i64 e])∧Below w.heap.size w w':=by
 have:=yC a b x y w ha hb;rwa [h.out] at this
theorem uN {x y:WI} {n e:Int} (h:Hid (bP x y=(n,e))) {a b:Value} {w:World} (ha:ap w a x) (hb:ap w b y) :
  Calls Tryz.prog 63 #[a,b] w fun r w'=>r = .returned (.tuple #[.int .i64 n,.int .i64 e])∧Below w.heap.size w w':=by
 have:=BU a b x y w ha hb;rwa [h.out] at this
theorem Bd (a b:Value) (x y:WI) (w:World) (ha:ap w a x) (hb:ap w b y) :
  Calls Tryz.prog 62 #[a,b] w fun e w'=>e = .returned (.tuple #[.int .i64 (bR x y).1,.int .i64 (bR x y).2])∧Below w.heap.size w w':=by
 obtain⟨na,oa,Aa,la,ka,rfl,ha⟩:=ha.aq;have Ca:=Lh ha;clear ha;obtain⟨nb,ob,Ab,lb,kb,rfl,hb⟩:=hb.aq;have Cb:=Lh hb;clear hb;obtain⟨-,hoa⟩:=Ca.out.flags;obtain⟨-,hob⟩:=Cb.out.flags;clear ha hb;obtain⟨sg,hsg⟩:∃ s,y.sign=s:=⟨_,rfl⟩;have HSG:=Lh hsg;cases hx:x.ov with
 | true =>
  rw[hx] at hoa;subst hoa;have EV:Hid (bR x y=(0,2)):=by show _=_;unfold bR;rw[jM (.inl hx),if_pos (by decide)]
  clear hsg;go_enter Tryz.func62,Tryz.ntmps62;go_wp2_with fail;go_ret2
  exact⟨by rw[EV.out];rfl,ae⟩
 | false =>
  rw[hx] at hoa;subst hoa;cases hy:y.ov with
  | true =>
   rw[hy] at hob;subst hob;have EV:Hid (bR x y=(0,2)):=by show _=_;unfold bR;rw[jM (.inr hy),if_pos (by decide)]
   clear hsg;go_enter Tryz.func62,Tryz.ntmps62;go_wp2_with fail;go_ret2
   exact⟨by rw[EV.out];rfl,ae⟩
  | false =>
   rw[hy] at hob;subst hob;by_cases hs:y.sign≤0
   ·have EV:Hid (bR x y=(0,1)):=by show _=_;unfold bR;rw[tj hx hy hs,if_pos (by decide)]
    rw[hsg] at hs;clear hsg hx hy;go_enter Tryz.func62,Tryz.ntmps62;go_wp2_with fail;obtain⟨u0,hu0⟩:∃ u,u=((w).alloc (Obj.cells #[.bool na,.bool false,.slice Aa la ka] 52)).alloc (Obj.cells #[.bool nb,.bool false,.slice Ab lb kb] 52):=⟨_,rfl⟩;rw[← hu0];have HB:=hB2 hu0;have X0:=b20 hu0;have X1:=b21 hu0;replace Ca:=Bp Ca HB.out;replace Cb:=Bp Cb HB.out;clear hu0;refine Calls.mono (d8 HSG Cb.out) ?_;rintro e x1 ⟨rfl,hb⟩;replace X0:=Kp X0 hb;replace X1:=Kp X1 hb;replace Ca:=Lh (Ca.out.below hb);replace Cb:=Lh (Cb.out.below hb);replace HB:=Tp HB hb;clear hb;go_wp2_with fail;go_ret2
    exact⟨by rw[EV.out];rfl,HB.out⟩
   ·obtain⟨z1,h1⟩:∃ z,x.add x=z:=⟨_,rfl⟩;obtain⟨z2,h2⟩:∃ z,z1.add y=z:=⟨_,rfl⟩;obtain⟨z3,h3⟩:∃ z,y.add y=z:=⟨_,rfl⟩;obtain⟨n,k,h4⟩:∃ n k,floorV z2 z3=(n,k):=⟨_,_,rfl⟩;have EV:Hid (bR x y=(n,k)):=by show _=_;unfold bR;rw[tk hx hy hs,if_neg (by decide),h1,h2,h3,h4]
    have H1:=Lh h1;have H2:=Lh h2;have H3:=Lh h3;have H4:=Lh h4;rw[hsg] at hs;clear hsg hx hy h1 h2 h3 h4;go_enter Tryz.func62,Tryz.ntmps62;go_wp2_with fail;obtain⟨u0,hu0⟩:∃ u,u=((w).alloc (Obj.cells #[.bool na,.bool false,.slice Aa la ka] 52)).alloc (Obj.cells #[.bool nb,.bool false,.slice Ab lb kb] 52):=⟨_,rfl⟩;rw[← hu0];have HB:=hB2 hu0;have X0:=b20 hu0;have X1:=b21 hu0;replace Ca:=Bp Ca HB.out;replace Cb:=Bp Cb HB.out;clear hu0;refine Calls.mono (d8 HSG Cb.out) ?_;rintro e x1 ⟨rfl,hb⟩;replace X0:=Kp X0 hb;replace X1:=Kp X1 hb;replace Ca:=Lh (Ca.out.below hb);replace Cb:=Lh (Cb.out.below hb);replace HB:=Tp HB hb;clear hb;go_wp2_with fail;have qX0_0:=@ao _ _ _ (show x1.cell? _=some (.bool na) from X0.out.cell (i:=0) rfl);have qX0_1:=@ao _ _ _ (show x1.cell? _=some (.bool false) from X0.out.cell (i:=1) rfl);have qX0_2:=@ao _ _ _ (show x1.cell? _=some (.slice Aa la ka) from X0.out.cell (i:=2) rfl);have qX1_0:=@ao _ _ _ (show x1.cell? _=some (.bool nb) from X1.out.cell (i:=0) rfl);have qX1_1:=@ao _ _ _ (show x1.cell? _=some (.bool false) from X1.out.cell (i:=1) rfl);have qX1_2:=@ao _ _ _ (show x1.cell? _=some (.slice Ab lb kb) from X1.out.cell (i:=2) rfl);have HL:Hid (Below x1.heap.size x1 x1.drew):=(Below.refl _ _).drew;refine av 13 (fun k=>match k with|2=>some (aG z1)|4=>some (aG z2)|7=>some (aG z3)|_=>none) (fun k=>match k with|4=>[2]|8=>[4,7]|_=>[]) (by kernel_rfl) (by kernel_rfl) ?_;apply Eb;apply Eb;apply Ef;apply Eb;apply Ef;apply Eb;apply Eb;apply Ef;apply Eb;apply Eb;apply Eb;apply Eb;apply Eb;refine⟨[],fun gg NN hN=>?_⟩;simp only[List.append_eq,List.cons_append,List.nil_append,List.take_succ_cons,List.take_zero,List.drop_succ_cons,List.drop_zero];(repeat (refine aj rfl ?_;go_big_quiet_step (first|exact rfl|((rename_i px;go_at_call 64;exact bE (gy H4 (px.has 4 (hN 8 4 (by simp)) _ rfl) (px.has 7 (hN 8 7 (by simp)) _ rfl)))));refine wpQuiet_nil ⟨?hd,?_⟩;(case hd=>exact rfl)));(refine ag _ (by rfl) (by rfl) ?hex ?_;(case hex=>(intro px;refine ai (fn:=43) (by go_simp;rfl) ?_;exact fX _ _ _ _ _ _ H1 (Ca.out.below (am HL.out px)) (Ca.out.below (am HL.out px))));simp only[Act.put,List.setIfInBounds_toArray,List.set_cons_succ,List.set_cons_zero]);(refine aj rfl ?_;go_big_quiet_step (first|exact rfl|((rename_i px;go_at_call 64;exact bE (gy H4 (px.has 4 (hN 8 4 (by simp)) _ rfl) (px.has 7 (hN 8 7 (by simp)) _ rfl)))));refine wpQuiet_nil ⟨?hd,?_⟩;(case hd=>exact rfl));(refine ag _ (by rfl) (by rfl) ?hex ?_;(case hex=>(intro px;refine ai (fn:=43) (by go_simp;rfl) ?_;exact fX _ _ _ _ _ _ H2 (px.has 2 (hN 4 2 (by simp)) _ rfl) (Cb.out.below (am HL.out px))));simp only[Act.put,List.setIfInBounds_toArray,List.set_cons_succ,List.set_cons_zero]);(repeat (refine aj rfl ?_;go_big_quiet_step (first|exact rfl|((rename_i px;go_at_call 64;exact bE (gy H4 (px.has 4 (hN 8 4 (by simp)) _ rfl) (px.has 7 (hN 8 7 (by simp)) _ rfl)))));refine wpQuiet_nil ⟨?hd,?_⟩;(case hd=>exact rfl)));(refine ag _ (by rfl) (by rfl) ?hex ?_;(case hex=>(intro px;refine ai (fn:=43) (by go_simp;rfl) ?_;exact fX _ _ _ _ _ _ H3 (Cb.out.below (am HL.out px)) (Cb.out.below (am HL.out px))));simp only[Act.put,List.setIfInBounds_toArray,List.set_cons_succ,List.set_cons_zero]);(repeat (refine aj rfl ?_;go_big_quiet_step (first|exact rfl|((rename_i px;go_at_call 64;exact bE (gy H4 (px.has 4 (hN 8 4 (by simp)) _ rfl) (px.has 7 (hN 8 7 (by simp)) _ rfl)))));refine wpQuiet_nil ⟨?hd,?_⟩;(case hd=>exact rfl)));refine aM ?_;intro x2 hb' hh;have hb:Below x1.heap.size x1 x2:=hb';clear hb' HL hh;clear qX0_0 qX0_1 qX0_2 qX1_0 qX1_1 qX1_2;replace X0:=Kp X0 hb;replace X1:=Kp X1 hb;replace Ca:=Lh (Ca.out.below hb);replace Cb:=Lh (Cb.out.below hb);replace HB:=Tp HB hb;clear hb;refine wpList_nil ?_;go_wp2_with fail;go_ret2
    exact⟨by rw[EV.out];rfl,HB.out⟩
theorem ud {x y:WI} {n e:Int} (h:Hid (bR x y=(n,e))) {a b:Value} {w:World} (ha:ap w a x) (hb:ap w b y) :
  Calls Tryz.prog 62 #[a,b] w fun r w'=>r = .returned (.tuple #[.int .i64 n,.int .i64 e])∧Below w.heap.size w w':=by
 have:=Bd a b x y w ha hb;rwa [h.out] at this
@[go_sem ↓] theorem Ec {P : Program} (ρ : Operand → Value) (dst : Option Tmp) (ty : TypeId) (pos : String) (af : Array Edge) (gd : Option (Nat × Bool)) (a b c d e f g : Operand) (w : World) :
    (execOp ρ ⟨dst,.build 157 #[(0,a),(1,b),(2,c),(3,d),(4,e),(5,f),(6,g)],ty,pos,af,gd⟩).run P w=(gM P 157 #[(0,ρ a),(1,ρ b),(2,ρ c),(3,ρ d),(4,ρ e),(5,ρ f),(6,ρ g)] w).andThen fun v w' => .ok (.value v) w':=by
 simp only[execOp,gM,Sem.run_bind,Sem.run_pure,List.map_toArray,List.map_cons,List.map_nil]
theorem wM (n0 o0:Bool) (A0:Option Addr) (l0 k0:Nat) (n1 o1:Bool) (A1:Option Addr) (l1 k1:Nat) (n2 o2:Bool) (A2:Option Addr) (l2 k2:Nat) (n3 o3:Bool) (A3:Option Addr) (l3 k3:Nat) (n4 o4:Bool) (A4:Option Addr) (l4 k4:Nat) (n5 o5:Bool) (A5:Option Addr) (l5 k5:Nat) (n6 o6:Bool) (A6:Option Addr) (l6 k6:Nat) (w:World):gM Tryz.prog 157 #[(0,(.agg #[.bool n0,.bool o0,.slice A0 l0 k0])),(1,(.agg #[.bool n1,.bool o1,.slice A1 l1 k1])),(2,(.agg #[.bool n2,.bool o2,.slice A2 l2 k2])),(3,(.agg #[.bool n3,.bool o3,.slice A3 l3 k3])),(4,(.agg #[.bool n4,.bool o4,.slice A4 l4 k4])),(5,(.agg #[.bool n5,.bool o5,.slice A5 l5 k5])),(6,(.agg #[.bool n6,.bool o6,.slice A6 l6 k6]))] w = .ok (.agg #[.bool n0,.bool o0,.slice A0 l0 k0,.bool n1,.bool o1,.slice A1 l1 k1,.bool n2,.bool o2,.slice A2 l2 k2,.bool n3,.bool o3,.slice A3 l3 k3,.bool n4,.bool o4,.slice A4 l4 k4,.bool n5,.bool o5,.slice A5 l5 k5,.bool n6,.bool o6,.slice A6 l6 k6]) w:=by kernel_rfl
theorem zt (n0 o0:Bool) (A0:Option Addr) (l0 k0:Nat) (n1 o1:Bool) (A1:Option Addr) (l1 k1:Nat) (n2 o2:Bool) (A2:Option Addr) (l2 k2:Nat) (n3 o3:Bool) (A3:Option Addr) (l3 k3:Nat) (n4 o4:Bool) (A4:Option Addr) (l4 k4:Nat) (n5 o5:Bool) (A5:Option Addr) (l5 k5:Nat) (n6 o6:Bool) (A6:Option Addr) (l6 k6:Nat) (w:World):Sem.run Tryz.prog (Instr.index 157 (.agg #[.bool n0,.bool o0,.slice A0 l0 k0,.bool n1,.bool o1,.slice A1 l1 k1,.bool n2,.bool o2,.slice A2 l2 k2,.bool n3,.bool o3,.slice A3 l3 k3,.bool n4,.bool o4,.slice A4 l4 k4,.bool n5,.bool o5,.slice A5 l5 k5,.bool n6,.bool o6,.slice A6 l6 k6]) (.int .i64 ((0:Nat):Int))) w = .ok (.agg #[.bool n0,.bool o0,.slice A0 l0 k0]) w:=by rfl
theorem zp (n0 o0:Bool) (A0:Option Addr) (l0 k0:Nat) (n1 o1:Bool) (A1:Option Addr) (l1 k1:Nat) (n2 o2:Bool) (A2:Option Addr) (l2 k2:Nat) (n3 o3:Bool) (A3:Option Addr) (l3 k3:Nat) (n4 o4:Bool) (A4:Option Addr) (l4 k4:Nat) (n5 o5:Bool) (A5:Option Addr) (l5 k5:Nat) (n6 o6:Bool) (A6:Option Addr) (l6 k6:Nat) (w:World):Sem.run Tryz.prog (Instr.index 157 (.agg #[.bool n0,.bool o0,.slice A0 l0 k0,.bool n1,.bool o1,.slice A1 l1 k1,.bool n2,.bool o2,.slice A2 l2 k2,.bool n3,.bool o3,.slice A3 l3 k3,.bool n4,.bool o4,.slice A4 l4 k4,.bool n5,.bool o5,.slice A5 l5 k5,.bool n6,.bool o6,.slice A6 l6 k6]) (.int .i64 ((1:Nat):Int))) w = .ok (.agg #[.bool n1,.bool o1,.slice A1 l1 k1]) w:=by rfl
theorem zo (n0 o0:Bool) (A0:Option Addr) (l0 k0:Nat) (n1 o1:Bool) (A1:Option Addr) (l1 k1:Nat) (n2 o2:Bool) (A2:Option Addr) (l2 k2:Nat) (n3 o3:Bool) (A3:Option Addr) (l3 k3:Nat) (n4 o4:Bool) (A4:Option Addr) (l4 k4:Nat) (n5 o5:Bool) (A5:Option Addr) (l5 k5:Nat) (n6 o6:Bool) (A6:Option Addr) (l6 k6:Nat) (w:World):Sem.run Tryz.prog (Instr.index 157 (.agg #[.bool n0,.bool o0,.slice A0 l0 k0,.bool n1,.bool o1,.slice A1 l1 k1,.bool n2,.bool o2,.slice A2 l2 k2,.bool n3,.bool o3,.slice A3 l3 k3,.bool n4,.bool o4,.slice A4 l4 k4,.bool n5,.bool o5,.slice A5 l5 k5,.bool n6,.bool o6,.slice A6 l6 k6]) (.int .i64 ((2:Nat):Int))) w = .ok (.agg #[.bool n2,.bool o2,.slice A2 l2 k2]) w:=by rfl
theorem zn (n0 o0:Bool) (A0:Option Addr) (l0 k0:Nat) (n1 o1:Bool) (A1:Option Addr) (l1 k1:Nat) (n2 o2:Bool) (A2:Option Addr) (l2 k2:Nat) (n3 o3:Bool) (A3:Option Addr) (l3 k3:Nat) (n4 o4:Bool) (A4:Option Addr) (l4 k4:Nat) (n5 o5:Bool) (A5:Option Addr) (l5 k5:Nat) (n6 o6:Bool) (A6:Option Addr) (l6 k6:Nat) (w:World):Sem.run Tryz.prog (Instr.index 157 (.agg #[.bool n0,.bool o0,.slice A0 l0 k0,.bool n1,.bool o1,.slice A1 l1 k1,.bool n2,.bool o2,.slice A2 l2 k2,.bool n3,.bool o3,.slice A3 l3 k3,.bool n4,.bool o4,.slice A4 l4 k4,.bool n5,.bool o5,.slice A5 l5 k5,.bool n6,.bool o6,.slice A6 l6 k6]) (.int .i64 ((3:Nat):Int))) w = .ok (.agg #[.bool n3,.bool o3,.slice A3 l3 k3]) w:=by rfl
theorem zm (n0 o0:Bool) (A0:Option Addr) (l0 k0:Nat) (n1 o1:Bool) (A1:Option Addr) (l1 k1:Nat) (n2 o2:Bool) (A2:Option Addr) (l2 k2:Nat) (n3 o3:Bool) (A3:Option Addr) (l3 k3:Nat) (n4 o4:Bool) (A4:Option Addr) (l4 k4:Nat) (n5 o5:Bool) (A5:Option Addr) (l5 k5:Nat) (n6 o6:Bool) (A6:Option Addr) (l6 k6:Nat) (w:World):Sem.run Tryz.prog (Instr.index 157 (.agg #[.bool n0,.bool o0,.slice A0 l0 k0,.bool n1,.bool o1,.slice A1 l1 k1,.bool n2,.bool o2,.slice A2 l2 k2,.bool n3,.bool o3,.slice A3 l3 k3,.bool n4,.bool o4,.slice A4 l4 k4,.bool n5,.bool o5,.slice A5 l5 k5,.bool n6,.bool o6,.slice A6 l6 k6]) (.int .i64 ((4:Nat):Int))) w = .ok (.agg #[.bool n4,.bool o4,.slice A4 l4 k4]) w:=by rfl
theorem zl (n0 o0:Bool) (A0:Option Addr) (l0 k0:Nat) (n1 o1:Bool) (A1:Option Addr) (l1 k1:Nat) (n2 o2:Bool) (A2:Option Addr) (l2 k2:Nat) (n3 o3:Bool) (A3:Option Addr) (l3 k3:Nat) (n4 o4:Bool) (A4:Option Addr) (l4 k4:Nat) (n5 o5:Bool) (A5:Option Addr) (l5 k5:Nat) (n6 o6:Bool) (A6:Option Addr) (l6 k6:Nat) (w:World):Sem.run Tryz.prog (Instr.index 157 (.agg #[.bool n0,.bool o0,.slice A0 l0 k0,.bool n1,.bool o1,.slice A1 l1 k1,.bool n2,.bool o2,.slice A2 l2 k2,.bool n3,.bool o3,.slice A3 l3 k3,.bool n4,.bool o4,.slice A4 l4 k4,.bool n5,.bool o5,.slice A5 l5 k5,.bool n6,.bool o6,.slice A6 l6 k6]) (.int .i64 ((5:Nat):Int))) w = .ok (.agg #[.bool n5,.bool o5,.slice A5 l5 k5]) w:=by rfl
theorem zk (n0 o0:Bool) (A0:Option Addr) (l0 k0:Nat) (n1 o1:Bool) (A1:Option Addr) (l1 k1:Nat) (n2 o2:Bool) (A2:Option Addr) (l2 k2:Nat) (n3 o3:Bool) (A3:Option Addr) (l3 k3:Nat) (n4 o4:Bool) (A4:Option Addr) (l4 k4:Nat) (n5 o5:Bool) (A5:Option Addr) (l5 k5:Nat) (n6 o6:Bool) (A6:Option Addr) (l6 k6:Nat) (w:World):Sem.run Tryz.prog (Instr.index 157 (.agg #[.bool n0,.bool o0,.slice A0 l0 k0,.bool n1,.bool o1,.slice A1 l1 k1,.bool n2,.bool o2,.slice A2 l2 k2,.bool n3,.bool o3,.slice A3 l3 k3,.bool n4,.bool o4,.slice A4 l4 k4,.bool n5,.bool o5,.slice A5 l5 k5,.bool n6,.bool o6,.slice A6 l6 k6]) (.int .i64 ((6:Nat):Int))) w = .ok (.agg #[.bool n6,.bool o6,.slice A6 l6 k6]) w:=by rfl
theorem vD {x0 x1 x2 x3 x4 x5 x6:WI} (h:ew [x0,x1,x2,x3,x4,x5,x6]=false):x0.ov=false∧x1.ov=false∧x2.ov=false∧x3.ov=false∧x4.ov=false∧x5.ov=false∧x6.ov=false:=by
 simpa [ew] using h
theorem AH (u:Value) (x0 x1 x2 x3 x4 x5 x6:WI) (w:World) (hall:ew [x0,x1,x2,x3,x4,x5,x6]=false) (hi:dT w u x0 x1 x2 x3 x4 x5 x6) :
  Calls Tryz.prog 61 #[u] w fun e w'=>e = .returned (.bool false)∧Below w.heap.size w w':=by
 obtain⟨v0,v1,v2,v3,v4,v5,v6⟩:=vD hall;clear hall;obtain⟨n0,o0,A0,l0,k0,n1,o1,A1,l1,k1,n2,o2,A2,l2,k2,n3,o3,A3,l3,k3,n4,o4,A4,l4,k4,n5,o5,A5,l5,k5,n6,o6,A6,l6,k6,rfl,h0,h1,h2,h3,h4,h5,h6⟩:=hi;have C0:=Lh h0;have C1:=Lh h1;have C2:=Lh h2;have C3:=Lh h3;have C4:=Lh h4;have C5:=Lh h5;have C6:=Lh h6;clear h0 h1 h2 h3 h4 h5 h6;obtain⟨-,f0⟩:=C0.out.flags;rw[v0] at f0;subst f0;clear v0 C0;obtain⟨-,f1⟩:=C1.out.flags;rw[v1] at f1;subst f1;clear v1 C1;obtain⟨-,f2⟩:=C2.out.flags;rw[v2] at f2;subst f2;clear v2 C2;obtain⟨-,f3⟩:=C3.out.flags;rw[v3] at f3;subst f3;clear v3 C3;obtain⟨-,f4⟩:=C4.out.flags;rw[v4] at f4;subst f4;clear v4 C4;obtain⟨-,f5⟩:=C5.out.flags;rw[v5] at f5;subst f5;clear v5 C5;obtain⟨-,f6⟩:=C6.out.flags;rw[v6] at f6;subst f6;clear v6 C6;obtain⟨IC,hIC⟩:∃ c:Array Value,#[.bool n0,.bool false,.slice A0 l0 k0,.bool n1,.bool false,.slice A1 l1 k1,.bool n2,.bool false,.slice A2 l2 k2,.bool n3,.bool false,.slice A3 l3 k3,.bool n4,.bool false,.slice A4 l4 k4,.bool n5,.bool false,.slice A5 l5 k5,.bool n6,.bool false,.slice A6 l6 k6]=c:=⟨_,rfl⟩;have hbl:∀ w,gM Tryz.prog 157 #[(0,.agg #[.bool n0,.bool false,.slice A0 l0 k0]),(1,.agg #[.bool n1,.bool false,.slice A1 l1 k1]),(2,.agg #[.bool n2,.bool false,.slice A2 l2 k2]),(3,.agg #[.bool n3,.bool false,.slice A3 l3 k3]),(4,.agg #[.bool n4,.bool false,.slice A4 l4 k4]),(5,.agg #[.bool n5,.bool false,.slice A5 l5 k5]),(6,.agg #[.bool n6,.bool false,.slice A6 l6 k6])] w = .ok (.agg IC) w:=fun w=>by rw[← hIC];with_reducible exact wM n0 false A0 l0 k0 n1 false A1 l1 k1 n2 false A2 l2 k2 n3 false A3 l3 k3 n4 false A4 l4 k4 n5 false A5 l5 k5 n6 false A6 l6 k6 w
 have hix:Hid (∀ k:Nat,k<7→∃ n A l c,∀ w,Sem.run Tryz.prog (Instr.index 157 (.agg IC) (.int .i64 k)) w = .ok (.agg #[.bool n,.bool false,.slice A l c]) w):=by
  intro k hk;rw[← hIC];rcases Nat.lt_or_ge k 1 with hk0|hk0
  ·obtain rfl:k=0:=by omega
   exact⟨n0,A0,l0,k0,fun w=>zt n0 false A0 l0 k0 n1 false A1 l1 k1 n2 false A2 l2 k2 n3 false A3 l3 k3 n4 false A4 l4 k4 n5 false A5 l5 k5 n6 false A6 l6 k6 w⟩
  rcases Nat.lt_or_ge k 2 with hk1|hk1
  ·obtain rfl:k=1:=by omega
   exact⟨n1,A1,l1,k1,fun w=>zp n0 false A0 l0 k0 n1 false A1 l1 k1 n2 false A2 l2 k2 n3 false A3 l3 k3 n4 false A4 l4 k4 n5 false A5 l5 k5 n6 false A6 l6 k6 w⟩
  rcases Nat.lt_or_ge k 3 with hk2|hk2
  ·obtain rfl:k=2:=by omega
   exact⟨n2,A2,l2,k2,fun w=>zo n0 false A0 l0 k0 n1 false A1 l1 k1 n2 false A2 l2 k2 n3 false A3 l3 k3 n4 false A4 l4 k4 n5 false A5 l5 k5 n6 false A6 l6 k6 w⟩
  rcases Nat.lt_or_ge k 4 with hk3|hk3
  ·obtain rfl:k=3:=by omega
   exact⟨n3,A3,l3,k3,fun w=>zn n0 false A0 l0 k0 n1 false A1 l1 k1 n2 false A2 l2 k2 n3 false A3 l3 k3 n4 false A4 l4 k4 n5 false A5 l5 k5 n6 false A6 l6 k6 w⟩
  rcases Nat.lt_or_ge k 5 with hk4|hk4
  ·obtain rfl:k=4:=by omega
   exact⟨n4,A4,l4,k4,fun w=>zm n0 false A0 l0 k0 n1 false A1 l1 k1 n2 false A2 l2 k2 n3 false A3 l3 k3 n4 false A4 l4 k4 n5 false A5 l5 k5 n6 false A6 l6 k6 w⟩
  rcases Nat.lt_or_ge k 6 with hk5|hk5
  ·obtain rfl:k=5:=by omega
   exact⟨n5,A5,l5,k5,fun w=>zl n0 false A0 l0 k0 n1 false A1 l1 k1 n2 false A2 l2 k2 n3 false A3 l3 k3 n4 false A4 l4 k4 n5 false A5 l5 k5 n6 false A6 l6 k6 w⟩
  rcases Nat.lt_or_ge k 7 with hk6|hk6
  ·obtain rfl:k=6:=by omega
   exact⟨n6,A6,l6,k6,fun w=>zk n0 false A0 l0 k0 n1 false A1 l1 k1 n2 false A2 l2 k2 n3 false A3 l3 k3 n4 false A4 l4 k4 n5 false A5 l5 k5 n6 false A6 l6 k6 w⟩
  omega
 clear hIC;have B0:=Blk.new w #[.bool n0,.bool false,.slice A0 l0 k0,.bool n1,.bool false,.slice A1 l1 k1,.bool n2,.bool false,.slice A2 l2 k2,.bool n3,.bool false,.slice A3 l3 k3,.bool n4,.bool false,.slice A4 l4 k4,.bool n5,.bool false,.slice A5 l5 k5,.bool n6,.bool false,.slice A6 l6 k6] 54;have q0:=B0.cell (i:=0) (v := .bool n0) rfl;have q1:=B0.cell (i:=1) (v := .bool false) rfl;have q2:=B0.cell (i:=2) (v := .slice A0 l0 k0) rfl;have q3:=B0.cell (i:=3) (v := .bool n1) rfl;have q4:=B0.cell (i:=4) (v := .bool false) rfl;have q5:=B0.cell (i:=5) (v := .slice A1 l1 k1) rfl;have q6:=B0.cell (i:=6) (v := .bool n2) rfl;have q7:=B0.cell (i:=7) (v := .bool false) rfl;have q8:=B0.cell (i:=8) (v := .slice A2 l2 k2) rfl;have q9:=B0.cell (i:=9) (v := .bool n3) rfl;have q10:=B0.cell (i:=10) (v := .bool false) rfl;have q11:=B0.cell (i:=11) (v := .slice A3 l3 k3) rfl;have q12:=B0.cell (i:=12) (v := .bool n4) rfl;have q13:=B0.cell (i:=13) (v := .bool false) rfl;have q14:=B0.cell (i:=14) (v := .slice A4 l4 k4) rfl;have q15:=B0.cell (i:=15) (v := .bool n5) rfl;have q16:=B0.cell (i:=16) (v := .bool false) rfl;have q17:=B0.cell (i:=17) (v := .slice A5 l5 k5) rfl;have q18:=B0.cell (i:=18) (v := .bool n6) rfl;have q19:=B0.cell (i:=19) (v := .bool false) rfl;have q20:=B0.cell (i:=20) (v := .slice A6 l6 k6) rfl;clear B0;go_enter Tryz.func61,Tryz.ntmps61;go_wp2_with fail;clear hbl q0 q1 q2 q3 q4 q5 q6 q7 q8 q9 q10 q11 q12 q13 q14 q15 q16 q17 q18 q19 q20;go_loopw [20] (fun i wr=>∃ k:Nat,k≤7∧i = .int .i64 k∧Hid (Below w.heap.size w wr)) (fun i _=>7-(intOf i).toNat)
 case atStart=>exact⟨0,by omega,rfl,Lh ((Below.refl _ _).alloc (Nat.le_refl _) _)⟩
 case round =>
  obtain⟨k,hk,rfl,HC⟩:=hrel;have hb:=HC.out;by_cases hlt:k<7
  ·obtain⟨nn,AA,ll,cc,hx⟩:=hix.out k hlt;have hk1:(k:Int)<7:=by omega
   have hk0:(0:Int)≤k:=by omega
   go_wp2_with fail;refine⟨⟨k+1,by omega,by go_num,?_⟩,by simp[intOf];omega⟩;exact Lh (hb.alloc hb.size _)
  ·have hk2:¬ (k:Int)<7:=by omega
   go_wp2_with fail;go_ret;exact⟨rfl,HC.out⟩
end Go.Proofs.YtnoidlacjiafdaaGreat
