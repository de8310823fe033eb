/- The walks of the document's WideDown, WideUp. -/
import Derived.Test.YtnoidlacjiafdaaGreatRs
import Derived.Test.YtnoidlacjiafdaaGreatVA
namespace Go.Proofs.YtnoidlacjiafdaaGreat
set_option maxRecDepth 100000
set_option maxHeartbeats 16000000
set_option linter.unusedSimpArgs false
set_option linter.unusedVariables false
open Go.RowKit
theorem iS {x s:WI} {e:Int} (h:Hid (x.sqrt=(s,e))) {u:Value} {w:World} (hx:ap w u x):Calls Tryz.prog 83 #[u] w fun r w'=>(∃ v,r = .returned (.tuple #[v,.int .i64 e])∧ap w' v s)∧Below w.heap.size w w':=by
 have:=tQ u x w hx;rwa [h.out] at this
theorem pM {x y:WI} {n:Int} {b:Bool} (h:Hid (x.cmp y=(n,b))) {u v:Value} {w:World} (hx:ap w u x) (hy:ap w v y) :
  Calls Tryz.prog 85 #[u,v] w fun e w'=>e = .returned (.tuple #[.int .i64 n,.bool b])∧Below w.heap.size w w':=by
 have:=Ee u v x y w hx hy;rwa [h.out] at this
theorem Fz (n:Int) (h:I64 n) (w:World):Calls Tryz.prog 40 #[.int .i64 n] w fun e w'=>(∃ v,e = .returned v∧ap w' v (WI.of n))∧Below w.heap.size w w':=gc n h.1 h.2 w
theorem xm (a:Value) (x:WI) (w:World) (ha:ap w a x) :
  Calls Tryz.prog 30 #[a] w fun e w'=>e = .returned (.tuple #[.int .i64 (dn x).1,.int .i64 (dn x).2])∧Below w.heap.size w w':=by
 obtain⟨na,oa,Aa,la,ka,rfl,ha⟩:=ha.aq;have Ca:=Lh ha;clear ha;obtain⟨s,er,hs⟩:∃ s e,x.sqrt=(s,e):=⟨_,_,rfl⟩;obtain⟨n,b,hn⟩:∃ n b,s.i64=(n,b):=⟨_,_,rfl⟩;have E:dn x=aV s er:=by unfold dn;rw[hs]
 have HS:=Lh hs;have HN:=Lh hn;by_cases he:er=0
 ·have EV:Hid (dn x=if b then (n,0) else (0,2)):=by show _=_;rw[E];unfold aV;rw[if_neg (by omega),hn]
  subst he;clear E hs hn;go_enter Tryz.func30,Tryz.ntmps30;go_wp2_with fail;obtain⟨u0,hu0⟩:∃ u,u=(w).alloc (Obj.cells #[.bool na,.bool oa,.slice Aa la ka] 52):=⟨_,rfl⟩;rw[← hu0];have HB:=hB1 hu0;have X0:=b10 hu0;replace Ca:=Bp Ca HB.out;clear hu0;refine Calls.mono (iS HS Ca.out) ?_;rintro e x1 ⟨⟨v,rfl,hv⟩,hb⟩;obtain⟨ns,os,As,ls,ks,rfl,hs⟩:=hv.aq;have Cs:=Lh hs;clear hv hs;replace X0:=Kp X0 hb;replace Ca:=Bp Ca hb;replace HB:=Tp HB hb;clear hb;go_wp2_with fail;obtain⟨u2,hu⟩:∃ u,u=x1.alloc (Obj.cells #[.bool ns,.bool os,.slice As ls ks] 52):=⟨_,rfl⟩;rw[← hu];obtain⟨gXS,hg⟩:∃ g,x1.heap.size=g:=⟨_,rfl⟩;have lt_X0_XS:w.heap.size<gXS:=by rw[← hg];exact X0.out.lt
  have gw_XS:w.heap.size≤gXS:=by rw[← hg];exact HB.out.size
  have hb:=ba hu;replace X0:=Kp X0 hb;replace Ca:=Bp Ca hb;replace Cs:=Bp Cs hb;replace HB:=Tp HB hb;clear hb;have XS:=bn hu hg;rw[hg];clear hu hg;obtain⟨qXSa,qXSb,qXSc⟩:=cl3 XS;have rl_XS:=XS.out.lt;go_wp2_with fail;clear qXSa qXSb qXSc rl_XS;refine Calls.mono (mF HN Cs.out) ?_;rintro e x3 ⟨rfl,hb⟩;replace X0:=Kp X0 hb;replace XS:=Kp XS hb;replace Ca:=Bp Ca hb;replace Cs:=Bp Cs hb;replace HB:=Tp HB hb;clear hb;cases b with
  | false =>
   go_wp2_with fail;go_ret2
   exact⟨by rw[EV.out];rfl,HB.out⟩
  | true =>
   go_wp2_with fail;go_ret2
   exact⟨by rw[EV.out];rfl,HB.out⟩
 ·have EV:Hid (dn x=(0,er)):=by show _=_;rw[E];unfold aV;rw[if_pos he]
  have he':(er==0)=false:=by simp[he]
  clear E hs hn;go_enter Tryz.func30,Tryz.ntmps30;go_wp2_with fail;obtain⟨u0,hu0⟩:∃ u,u=(w).alloc (Obj.cells #[.bool na,.bool oa,.slice Aa la ka] 52):=⟨_,rfl⟩;rw[← hu0];have HB:=hB1 hu0;have X0:=b10 hu0;replace Ca:=Bp Ca HB.out;clear hu0;refine Calls.mono (iS HS Ca.out) ?_;rintro e x1 ⟨⟨v,rfl,hv⟩,hb⟩;obtain⟨ns,os,As,ls,ks,rfl,hs⟩:=hv.aq;have Cs:=Lh hs;clear hv hs;replace X0:=Kp X0 hb;replace Ca:=Bp Ca hb;replace HB:=Tp HB hb;clear hb;go_wp2_with fail;go_ret2
  exact⟨by rw[EV.out];rfl,HB.out.alloc HB.out.size _⟩
theorem Dg (a:Value) (x:WI) (w:World) (ha:ap w a x) :
  Calls Tryz.prog 31 #[a] w fun e w'=>e = .returned (.tuple #[.int .i64 (fY x).1,.int .i64 (fY x).2])∧Below w.heap.size w w':=by
 obtain⟨na,oa,Aa,la,ka,rfl,ha⟩:=ha.aq;have Ca:=Lh ha;clear ha;obtain⟨s,er,hs⟩:∃ s e,x.sqrt=(s,e):=⟨_,_,rfl⟩;obtain⟨m,hm⟩:∃ m,s.mul s=m:=⟨_,rfl⟩;obtain⟨c,cb,hc⟩:∃ c b,m.cmp x=(c,b):=⟨_,_,rfl⟩;have HS:=Lh hs;have h_m:=Lh hm;have HC:=Lh hc;have K1:Hid (I64 1):=by unfold Hid I64;omega
 have E:fY x=aV (if er=0∧c<0 then s.add (WI.of 1) else s) er:=by unfold fY;rw[hs];simp only[hm,hc]
 by_cases he:er=0
 ·by_cases hc0:c<0
  ·obtain⟨t,ht⟩:∃ t,s.add (WI.of 1)=t:=⟨_,rfl⟩;have h_t:=Lh ht;obtain⟨n,b,hn⟩:∃ n b,t.i64=(n,b):=⟨_,_,rfl⟩;have HN:=Lh hn;have EV:Hid (fY x=if b then (n,0) else (0,2)):=by show _=_;rw[E,if_pos ⟨he,hc0⟩,ht];unfold aV;rw[if_neg (by omega),hn]
   subst he;clear E hs hm hc hn ht;go_enter Tryz.func31,Tryz.ntmps31;go_wp2_with fail;obtain⟨u0,hu0⟩:∃ u,u=(w).alloc (Obj.cells #[.bool na,.bool oa,.slice Aa la ka] 52):=⟨_,rfl⟩;rw[← hu0];have HB:=hB1 hu0;have X0:=b10 hu0;replace Ca:=Bp Ca HB.out;clear hu0;refine Calls.mono (iS HS Ca.out) ?_;rintro e x1 ⟨⟨v,rfl,hv⟩,hb⟩;obtain⟨ns,os,As,ls,ks,rfl,hs⟩:=hv.aq;have Cs:=Lh hs;clear hv hs;replace X0:=Kp X0 hb;replace Ca:=Bp Ca hb;replace HB:=Tp HB hb;clear hb;go_wp2_with fail;obtain⟨u2,hu⟩:∃ u,u=x1.alloc (Obj.cells #[.bool ns,.bool os,.slice As ls ks] 52):=⟨_,rfl⟩;rw[← hu];obtain⟨gXS,hg⟩:∃ g,x1.heap.size=g:=⟨_,rfl⟩;have lt_X0_XS:w.heap.size<gXS:=by rw[← hg];exact X0.out.lt
   have gw_XS:w.heap.size≤gXS:=by rw[← hg];exact HB.out.size
   have hb:=ba hu;replace X0:=Kp X0 hb;replace Ca:=Bp Ca hb;replace Cs:=Bp Cs hb;replace HB:=Tp HB hb;clear hb;have XS:=bn hu hg;rw[hg];clear hu hg;have plX0:=X0.out.lt;have plXS:=XS.out.lt;obtain⟨qX0a,qX0b,qX0c⟩:=ic3 X0;obtain⟨qXSa,qXSb,qXSc⟩:=ic3 XS;have HL:Hid (Below u2.heap.size u2 u2.drew):=(Below.refl _ _).drew;refine av 10 (fun k=>match k with|2=>some (aG m)|_=>none) (fun k=>match k with|4=>[2]|_=>[]) (by kernel_rfl) (by kernel_rfl) ?_;apply Eb;apply Eb;apply Ef;apply Eb;apply Eb;apply Eb;apply Eb;apply Eb;apply Eb;apply Eb;refine⟨[],fun gg NN hN=>?_⟩;simp only[List.append_eq,List.cons_append,List.nil_append,List.take_succ_cons,List.take_zero,List.drop_succ_cons,List.drop_zero];(repeat (refine aj rfl ?_;go_big_quiet_step (first|exact rfl|((rename_i px;go_at_call 85;exact bE (pM HC (px.has 2 (hN 4 2 (by simp)) _ rfl) (Ca.out.below (am HL.out px))))));refine wpQuiet_nil ⟨?hd,?_⟩;(case hd=>exact rfl)));(refine ag _ (by rfl) (by rfl) ?hex ?_;(case hex=>(intro px;refine ai (fn:=28) (by go_simp;rfl) ?_;exact bA _ _ _ _ _ _ h_m (Cs.out.below (am HL.out px)) (Cs.out.below (am HL.out px))));simp only[Act.put,sb,sc,sz]);(repeat (refine aj rfl ?_;go_big_quiet_step (first|exact rfl|((rename_i px;go_at_call 85;exact bE (pM HC (px.has 2 (hN 4 2 (by simp)) _ rfl) (Ca.out.below (am HL.out px))))));refine wpQuiet_nil ⟨?hd,?_⟩;(case hd=>exact rfl)));refine aM ?_;intro x3 hb' hh;have hb:Below u2.heap.size u2 x3:=hb';clear hb' HL;clear qX0a qX0b qX0c qXSa qXSb qXSc;replace X0:=Kp X0 hb;replace XS:=Kp XS hb;replace Ca:=Bp Ca hb;replace Cs:=Bp Cs hb;replace HB:=Tp HB hb;clear hb;refine wpList_nil ?_;clear hh plX0 plXS;go_wp2_with fail;have plX0:=X0.out.lt;have plXS:=XS.out.lt;obtain⟨qXSa,qXSb,qXSc⟩:=ic3 XS;have HL:Hid (Below x3.heap.size x3 x3.drew):=(Below.refl _ _).drew;refine av 3 (fun k=>match k with|1=>some (aG (WI.of 1))|2=>some (aG t)|_=>none) (fun k=>match k with|2=>[1]|_=>[]) (by kernel_rfl) (by kernel_rfl) ?_;apply Eb;apply Ef;apply Ef;refine⟨[],fun gg NN hN=>?_⟩;simp only[List.append_eq,List.cons_append,List.nil_append,List.take_succ_cons,List.take_zero,List.drop_succ_cons,List.drop_zero];(refine aj rfl ?_;go_big_quiet_step (exact rfl);refine wpQuiet_nil ⟨?hd,?_⟩;(case hd=>exact rfl));(refine ag _ (by rfl) (by rfl) ?hex ?_;(case hex=>(intro px;refine ai (fn:=40) (by go_simp;rfl) ?_;exact Fz _ K1.out _));simp only[Act.put,sb,sc,sz]);(refine ag _ (by rfl) (by rfl) ?hex ?_;(case hex=>(intro px;refine ai (fn:=43) (by go_simp;rfl) ?_;exact fX _ _ _ _ _ _ h_t (Cs.out.below (am HL.out px)) (px.has 1 (hN 2 1 (by simp)) _ rfl)));simp only[Act.put,sb,sc,sz]);refine aM ?_;intro x4 hb' hh;have hb:Below x3.heap.size x3 x4:=hb';clear hb' HL;clear qXSa qXSb qXSc;replace X0:=Kp X0 hb;replace XS:=Kp XS hb;replace Ca:=Bp Ca hb;replace Cs:=Bp Cs hb;replace HB:=Tp HB hb;clear hb;obtain⟨nt,ot,At,lt,kt,e2,ht⟩:=(show ap x4 (gg 2) t from hh 2 _ (by decide) rfl).aq;have Ct:=Lh ht;rw[e2];clear ht e2;clear hh plX0 plXS;obtain⟨qXSa,qXSb,qXSc⟩:=cl3 XS;have rl_XS:=XS.out.lt;have fz_XS:=XS.out.frozen;have ft_XS:=XS.out.fits 3 (by simp);go_upto_region 7 with fail
   clear qXSa qXSb qXSc rl_XS fz_XS ft_XS;obtain⟨v5,hv⟩:∃ v,v=((x4.setCell ⟨gXS,0,none⟩ (.bool nt)).setCell ⟨gXS,1,none⟩ (.bool ot)).setCell ⟨gXS,2,none⟩ (.slice At lt kt):=⟨_,rfl⟩;rw[← hv];have ho:ah (gXS) x4 v5:=by rw[hv];exact ah.refl.set3 _ _ _
   have hn:=hv;replace Ca:=Cb Ca ho XS;replace Cs:=Cb Cs ho XS;replace Ct:=Cb Ct ho XS;replace X0:=Hk ho X0;replace HB:=Ho ho HB;replace XS:Hid (Blk v5 (gXS) #[.bool nt,.bool ot,.slice At lt kt] 52):=by rw[hv];exact XS.out.set3 _ _ _
   clear ho hn hv;obtain⟨qXSa,qXSb,qXSc⟩:=cl3 XS;have rl_XS:=XS.out.lt;go_wp2_with fail;clear qXSa qXSb qXSc rl_XS;refine Calls.mono (mF HN Ct.out) ?_;rintro e x6 ⟨rfl,hb⟩;replace X0:=Kp X0 hb;replace XS:=Kp XS hb;replace Ca:=Bp Ca hb;replace Cs:=Bp Cs hb;replace Ct:=Bp Ct hb;replace HB:=Tp HB hb;clear hb;cases b with
   | false =>
    go_wp2_with fail;go_ret2
    exact⟨by rw[EV.out];rfl,HB.out⟩
   | true =>
    go_wp2_with fail;go_ret2
    exact⟨by rw[EV.out];rfl,HB.out⟩
  ·obtain⟨n,b,hn⟩:∃ n b,s.i64=(n,b):=⟨_,_,rfl⟩;have HN:=Lh hn;have EV:Hid (fY x=if b then (n,0) else (0,2)):=by show _=_;rw[E,if_neg (by omega)];unfold aV;rw[if_neg (by omega),hn]
   subst he;clear E hs hm hc hn;go_enter Tryz.func31,Tryz.ntmps31;go_wp2_with fail;obtain⟨u0,hu0⟩:∃ u,u=(w).alloc (Obj.cells #[.bool na,.bool oa,.slice Aa la ka] 52):=⟨_,rfl⟩;rw[← hu0];have HB:=hB1 hu0;have X0:=b10 hu0;replace Ca:=Bp Ca HB.out;clear hu0;refine Calls.mono (iS HS Ca.out) ?_;rintro e x1 ⟨⟨v,rfl,hv⟩,hb⟩;obtain⟨ns,os,As,ls,ks,rfl,hs⟩:=hv.aq;have Cs:=Lh hs;clear hv hs;replace X0:=Kp X0 hb;replace Ca:=Bp Ca hb;replace HB:=Tp HB hb;clear hb;go_wp2_with fail;obtain⟨u2,hu⟩:∃ u,u=x1.alloc (Obj.cells #[.bool ns,.bool os,.slice As ls ks] 52):=⟨_,rfl⟩;rw[← hu];obtain⟨gXS,hg⟩:∃ g,x1.heap.size=g:=⟨_,rfl⟩;have lt_X0_XS:w.heap.size<gXS:=by rw[← hg];exact X0.out.lt
   have gw_XS:w.heap.size≤gXS:=by rw[← hg];exact HB.out.size
   have hb:=ba hu;replace X0:=Kp X0 hb;replace Ca:=Bp Ca hb;replace Cs:=Bp Cs hb;replace HB:=Tp HB hb;clear hb;have XS:=bn hu hg;rw[hg];clear hu hg;have plX0:=X0.out.lt;have plXS:=XS.out.lt;obtain⟨qX0a,qX0b,qX0c⟩:=ic3 X0;obtain⟨qXSa,qXSb,qXSc⟩:=ic3 XS;have HL:Hid (Below u2.heap.size u2 u2.drew):=(Below.refl _ _).drew;refine av 10 (fun k=>match k with|2=>some (aG m)|_=>none) (fun k=>match k with|4=>[2]|_=>[]) (by kernel_rfl) (by kernel_rfl) ?_;apply Eb;apply Eb;apply Ef;apply Eb;apply Eb;apply Eb;apply Eb;apply Eb;apply Eb;apply Eb;refine⟨[],fun gg NN hN=>?_⟩;simp only[List.append_eq,List.cons_append,List.nil_append,List.take_succ_cons,List.take_zero,List.drop_succ_cons,List.drop_zero];(repeat (refine aj rfl ?_;go_big_quiet_step (first|exact rfl|((rename_i px;go_at_call 85;exact bE (pM HC (px.has 2 (hN 4 2 (by simp)) _ rfl) (Ca.out.below (am HL.out px))))));refine wpQuiet_nil ⟨?hd,?_⟩;(case hd=>exact rfl)));(refine ag _ (by rfl) (by rfl) ?hex ?_;(case hex=>(intro px;refine ai (fn:=28) (by go_simp;rfl) ?_;exact bA _ _ _ _ _ _ h_m (Cs.out.below (am HL.out px)) (Cs.out.below (am HL.out px))));simp only[Act.put,sb,sc,sz]);(repeat (refine aj rfl ?_;go_big_quiet_step (first|exact rfl|((rename_i px;go_at_call 85;exact bE (pM HC (px.has 2 (hN 4 2 (by simp)) _ rfl) (Ca.out.below (am HL.out px))))));refine wpQuiet_nil ⟨?hd,?_⟩;(case hd=>exact rfl)));refine aM ?_;intro x3 hb' hh;have hb:Below u2.heap.size u2 x3:=hb';clear hb' HL;clear qX0a qX0b qX0c qXSa qXSb qXSc;replace X0:=Kp X0 hb;replace XS:=Kp XS hb;replace Ca:=Bp Ca hb;replace Cs:=Bp Cs hb;replace HB:=Tp HB hb;clear hb;refine wpList_nil ?_;clear hh plX0 plXS;obtain⟨qXSa,qXSb,qXSc⟩:=cl3 XS;have rl_XS:=XS.out.lt;go_wp2_with fail;clear qXSa qXSb qXSc rl_XS;refine Calls.mono (mF HN Cs.out) ?_;rintro e x4 ⟨rfl,hb⟩;replace X0:=Kp X0 hb;replace XS:=Kp XS hb;replace Ca:=Bp Ca hb;replace Cs:=Bp Cs hb;replace HB:=Tp HB hb;clear hb;cases b with
   | false =>
    go_wp2_with fail;go_ret2
    exact⟨by rw[EV.out];rfl,HB.out⟩
   | true =>
    go_wp2_with fail;go_ret2
    exact⟨by rw[EV.out];rfl,HB.out⟩
 ·have EV:Hid (fY x=(0,er)):=by show _=_;rw[E,if_neg (by omega)];unfold aV;rw[if_pos he]
  have he':(er==0)=false:=by simp[he]
  clear E hs hm hc;go_enter Tryz.func31,Tryz.ntmps31;go_wp2_with fail;obtain⟨u0,hu0⟩:∃ u,u=(w).alloc (Obj.cells #[.bool na,.bool oa,.slice Aa la ka] 52):=⟨_,rfl⟩;rw[← hu0];have HB:=hB1 hu0;have X0:=b10 hu0;replace Ca:=Bp Ca HB.out;clear hu0;refine Calls.mono (iS HS Ca.out) ?_;rintro e x1 ⟨⟨v,rfl,hv⟩,hb⟩;obtain⟨ns,os,As,ls,ks,rfl,hs⟩:=hv.aq;have Cs:=Lh hs;clear hv hs;replace X0:=Kp X0 hb;replace Ca:=Bp Ca hb;replace HB:=Tp HB hb;clear hb;go_wp2_with fail;go_ret2
  exact⟨by rw[EV.out];rfl,HB.out.alloc HB.out.size _⟩
theorem xl {x:WI} {n e:Int} (h:Hid (dn x=(n,e))) {a:Value} {w:World} (ha:ap w a x) :
  Calls Tryz.prog 30 #[a] w fun r w'=>r = .returned (.tuple #[.int .i64 n,.int .i64 e])∧Below w.heap.size w w':=by
 have:=xm a x w ha;rwa [h.out] at this
theorem fe {x:WI} {n e:Int} (h:Hid (fY x=(n,e))) {a:Value} {w:World} (ha:ap w a x) :
  Calls Tryz.prog 31 #[a] w fun r w'=>r = .returned (.tuple #[.int .i64 n,.int .i64 e])∧Below w.heap.size w w':=by
 have:=Dg a x w ha;rwa [h.out] at this
theorem AU (lo hi:Int) (w:World):Calls Tryz.prog 23 #[.int .i64 lo,.int .i64 hi] w fun e w'=>e = .returned (.bool (aJ lo hi))∧Below w.heap.size w w':=by
 by_cases h1:0≤lo
 ·by_cases h2:lo≤hi
  ·have EV:Hid (aJ lo hi=decide (hi≤4194304)):=by show _=_;unfold aJ;simp[h1,h2]
   go_enter Tryz.func23,Tryz.ntmps23;go_wp2
   go_ret;exact⟨by rw[EV.out];rfl,ae⟩
  ·have EV:Hid (aJ lo hi=false):=by show _=_;unfold aJ;simp[h2]
   go_enter Tryz.func23,Tryz.ntmps23;go_wp2
   go_ret;exact⟨by rw[EV.out];rfl,ae⟩
 ·have EV:Hid (aJ lo hi=false):=by show _=_;unfold aJ;simp[h1]
  go_enter Tryz.func23,Tryz.ntmps23;go_wp2
  go_ret;exact⟨by rw[EV.out];rfl,ae⟩
theorem iW (lo hi:Int) (k:Bool) (h:aJ lo hi=k) (w:World):Calls Tryz.prog 23 #[.int .i64 lo,.int .i64 hi] w fun e w'=>e = .returned (.bool k)∧Below w.heap.size w w':=by
 subst h;exact AU lo hi w
theorem xF (x y a b d h k:Int) (he:El.may ⟨x,y,a,b,d⟩=true) (hh : -8388608≤h∧h≤8388608) (hk : -8388608≤k∧k≤8388608) (w:World) :
  Calls Tryz.prog 26 #[elC x y a b d,ptV h k] w fun e w'=>e = .returned (.tuple #[.int .i64 (upI (form a b d h k)),.int .i64 0])∧Below w.heap.size w w':=by
 have HM:=Lh he;have m:=(El.aQ _).1 he;simp only at m;have f0:=mw _ he h k;simp only at f0;have f1:=d5 a b d h k (by omega) (by omega) (by omega) hh hk;have e0:a*(h*h)+d*(k*k)+(b*(h*k)+b*(h*k))=form a b d h k:=by unfold form;grind
 have EV:=Lh (tL _ f0 (by omega));have HI:Hid (I64 a∧I64 b∧I64 d∧I64 h∧I64 k):=⟨by unfold I64;omega,by unfold I64;omega,by unfold I64;omega,by unfold I64;omega,by unfold I64;omega⟩;have W1:Hid (wiB h 16777216=true):=by show _=_;unfold wiB;simp;omega
 have W2:Hid (wiB k 16777216=true):=by show _=_;unfold wiB;simp;omega
 obtain⟨U,hU⟩:∃ U,upI (form a b d h k)=U:=⟨_,rfl⟩;rw[hU] at EV ⊢;obtain⟨q,hq⟩:∃ q,form a b d h k=q:=⟨_,rfl⟩;rw[hq] at EV e0;have E0:=Lh e0;clear he hh hk m f0 f1 hU hq e0;go_enter Tryz.func26,Tryz.ntmps26;go_wp2_with fail;obtain⟨u0,hu0⟩:∃ u,u=((w).alloc (Obj.cells #[.int .i64 x,.int .i64 y,.int .i64 a,.int .i64 b,.int .i64 d] 27)).alloc (Obj.cells #[.int .i64 h,.int .i64 k] 23):=⟨_,rfl⟩;rw[← hu0];have HB:=hB2 hu0;have X0:=b20 hu0;have X1:=b21 hu0;clear hu0;refine Calls.mono (aH _ _ _ _ _ _ HM.out _) ?_;rintro e x1 ⟨rfl,hb⟩;replace X0:=Kp X0 hb;replace X1:=Kp X1 hb;replace HB:=Tp HB hb;clear hb;obtain⟨qX1a,qX1b⟩:=cl2 X1;have rl_X1:=X1.out.lt;go_wp2_with fail;clear qX1a qX1b rl_X1;refine Calls.mono (bW _ _ _ W1.out (by decide) _) ?_;rintro e x2 ⟨rfl,hb⟩;replace X0:=Kp X0 hb;replace X1:=Kp X1 hb;replace HB:=Tp HB hb;clear hb;obtain⟨qX1a,qX1b⟩:=cl2 X1;have rl_X1:=X1.out.lt;go_wp2_with fail;clear qX1a qX1b rl_X1;refine Calls.mono (bW _ _ _ W2.out (by decide) _) ?_;rintro e x3 ⟨rfl,hb⟩;replace X0:=Kp X0 hb;replace X1:=Kp X1 hb;replace HB:=Tp HB hb;clear hb;obtain⟨qX0a,qX0b,qX0c,qX0d,qX0e⟩:=cl5 X0;have rl_X0:=X0.out.lt;obtain⟨qX1a,qX1b⟩:=cl2 X1;have rl_X1:=X1.out.lt;go_wp2_with fail;clear qX0a qX0b qX0c qX0d qX0e rl_X0 qX1a qX1b rl_X1;refine Calls.mono (xI _ _ _ _ _ HI.out.1 HI.out.2.1 HI.out.2.2.1 HI.out.2.2.2.1 HI.out.2.2.2.2 _) ?_;rintro e x4 ⟨⟨v,rfl,hv⟩,hb⟩;obtain⟨nq,oq,Aq,lq,kq,rfl,hq⟩:=hv.aq;have Cq:=Lh hq;clear hv hq;replace X0:=Kp X0 hb;replace X1:=Kp X1 hb;replace HB:=Tp HB hb;clear hb;rw[E0.out] at Cq;go_wp2_with fail;refine Calls.mono (fe EV Cq.out) ?_;rintro e x5 ⟨rfl,hb⟩;replace X0:=Kp X0 hb;replace X1:=Kp X1 hb;replace Cq:=Bp Cq hb;replace HB:=Tp HB hb;clear hb;go_wp2_with fail;go_ret2
 exact⟨rfl,HB.out⟩
end Go.Proofs.YtnoidlacjiafdaaGreat
