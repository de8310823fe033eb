/- The document's MayStrip, OfStrip. -/
import Derived.Test.YtilginoibhfeiaaGreatYl
import Derived.Test.YtilginoibhfeiaaGreatY2
set_option maxRecDepth 100000
set_option maxHeartbeats 16000000
namespace Go.Proofs.YtilginoibhfeiaaGreat
set_option linter.unusedSimpArgs false
open Go.RowKit
theorem may_strip_eq (a b c d lo hi:Int):St.may ⟨a,b,c,d,lo,hi⟩=(mayPt a b&&(wiB c 16777216&&(wiB d 16777216&&(!(decide (c=0)&&decide (d=0))&&(wiB lo 1125899906842624&&(wiB hi 1125899906842624&&decide (lo<hi))))))):=by
 rw [Bool.eq_iff_iff,St.may_iff]
 simp only [Bool.and_eq_true,mayPt_iff,wiB,decide_eq_true_eq,Bool.not_eq_true',Bool.and_eq_false_iff,decide_eq_false_iff_not]
 constructor
 ·rintro ⟨h1,h2,h3,h4⟩;omega
 ·rintro ⟨h1,h2,h3,h4,h5,h6,h7⟩;omega
theorem rmaystrip_c (a b c d lo hi:Int) (w:World) :
  Calls Tryz.prog 37 #[stC a b c d lo hi] w fun e w'=>e = .returned (.bool (St.may ⟨a,b,c,d,lo,hi⟩))∧Below w.heap.size w w':=by
 obtain ⟨m,hm⟩:∃ m,mayPt a b=m:=⟨_,rfl⟩
 obtain ⟨p1,h1⟩:∃ m,wiB c 16777216=m:=⟨_,rfl⟩
 obtain ⟨p2,h2⟩:∃ m,wiB d 16777216=m:=⟨_,rfl⟩
 obtain ⟨p3,h3⟩:∃ m,wiB lo 1125899906842624=m:=⟨_,rfl⟩
 obtain ⟨p4,h4⟩:∃ m,wiB hi 1125899906842624=m:=⟨_,rfl⟩
 have E:=may_strip_eq a b c d lo hi
 rw [hm,h1,h2,h3,h4] at E
 have HE:=Lh E
 have HM:=Lh hm
 have H1:=Lh h1
 have H2:=Lh h2
 have H3:=Lh h3
 have H4:=Lh h4
 clear E hm h1 h2 h3 h4
 go_enter Tryz.func37,Tryz.ntmps37
 go_wp2_with fail
 obtain ⟨u0,hu0⟩:∃ u,u=(w).alloc (Obj.cells #[.int .i64 a,.int .i64 b,.int .i64 c,.int .i64 d,.int .i64 lo,.int .i64 hi] 39):=⟨_,rfl⟩
 rw [← hu0]
 have HB:Hid (Below w.heap.size w u0):=by rw [hu0];show Below w.heap.size w _;exact below_byR
 have X0:Hid (Blk u0 (w.heap.size) #[.int .i64 a,.int .i64 b,.int .i64 c,.int .i64 d,.int .i64 lo,.int .i64 hi] 39):=by rw [hu0];exact Blk.new' _ _ _ (by simp)
 clear hu0
 refine Calls.mono (rmaypt_v _ _ _ HM.out _) ?_
 rintro e x1 ⟨rfl,hb⟩
 replace X0:=Kp X0 hb
 replace HB:=Tp HB hb
 clear hb
 cases m with
 | false =>
  go_wp2_with fail
  go_ret
  exact ⟨by rw [HE.out];simp,HB.out⟩
 | true =>
  obtain ⟨qX0a,qX0b,qX0c,qX0d,qX0e,qX0f⟩:=cl6 X0
  have rl_X0:=X0.out.lt
  go_wp2_with fail
  clear qX0a qX0b qX0c qX0d qX0e qX0f rl_X0
  refine Calls.mono (rwithin_v _ _ _ H1.out (by decide) _) ?_
  rintro e x2 ⟨rfl,hb⟩
  replace X0:=Kp X0 hb
  replace HB:=Tp HB hb
  clear hb
  cases p1 with
  | false =>
   go_wp2_with fail
   go_ret
   exact ⟨by rw [HE.out];simp,HB.out⟩
  | true =>
   obtain ⟨qX0a,qX0b,qX0c,qX0d,qX0e,qX0f⟩:=cl6 X0
   have rl_X0:=X0.out.lt
   go_wp2_with fail
   clear qX0a qX0b qX0c qX0d qX0e qX0f rl_X0
   refine Calls.mono (rwithin_v _ _ _ H2.out (by decide) _) ?_
   rintro e x3 ⟨rfl,hb⟩
   replace X0:=Kp X0 hb
   replace HB:=Tp HB hb
   clear hb
   cases p2 with
   | false =>
    go_wp2_with fail
    go_ret
    exact ⟨by rw [HE.out];simp,HB.out⟩
   | true =>
    by_cases hc:c=0
    ·subst hc
     by_cases hd:d=0
     ·subst hd
      obtain ⟨qX0a,qX0b,qX0c,qX0d,qX0e,qX0f⟩:=cl6 X0
      have rl_X0:=X0.out.lt
      go_wp2_with fail
      go_ret
      exact ⟨by rw [HE.out];simp,HB.out⟩
     ·have qX0a:=X0.out.cell (i:=0) (v := .int .i64 a) rfl
      have qX0b:=X0.out.cell (i:=1) (v := .int .i64 b) rfl
      have qX0c:=X0.out.cell (i:=2) (v := .int .i64 0) rfl
      have qX0d:=X0.out.cell (i:=3) (v := .int .i64 d) rfl
      have qX0e:=X0.out.cell (i:=4) (v := .int .i64 lo) rfl
      have qX0f:=X0.out.cell (i:=5) (v := .int .i64 hi) rfl
      have rl_X0:=X0.out.lt
      go_wp2_with fail
      clear qX0a qX0b qX0c qX0d qX0e qX0f rl_X0
      refine Calls.mono (rwithin_v _ _ _ H3.out (by decide) _) ?_
      rintro e x4 ⟨rfl,hb⟩
      replace X0:=Kp X0 hb
      replace HB:=Tp HB hb
      clear hb
      cases p3 with
      | false =>
       go_wp2_with fail
       go_ret
       exact ⟨by rw [HE.out];simp [hd],HB.out⟩
      | true =>
       obtain ⟨qX0a,qX0b,qX0c,qX0d,qX0e,qX0f⟩:=cl6 X0
       have rl_X0:=X0.out.lt
       go_wp2_with fail
       clear qX0a qX0b qX0c qX0d qX0e qX0f rl_X0
       refine Calls.mono (rwithin_v _ _ _ H4.out (by decide) _) ?_
       rintro e x5 ⟨rfl,hb⟩
       replace X0:=Kp X0 hb
       replace HB:=Tp HB hb
       clear hb
       cases p4 with
       | false =>
        go_wp2_with fail
        go_ret
        exact ⟨by rw [HE.out];simp [hd],HB.out⟩
       | true =>
        obtain ⟨qX0a,qX0b,qX0c,qX0d,qX0e,qX0f⟩:=cl6 X0
        have rl_X0:=X0.out.lt
        go_wp2_with fail
        clear qX0a qX0b qX0c qX0d qX0e qX0f rl_X0
        go_ret
        exact ⟨by rw [HE.out];simp [hd],HB.out⟩
    ·have qX0a:=X0.out.cell (i:=0) (v := .int .i64 a) rfl
     have qX0b:=X0.out.cell (i:=1) (v := .int .i64 b) rfl
     have qX0c:=X0.out.cell (i:=2) (v := .int .i64 c) rfl
     have qX0d:=X0.out.cell (i:=3) (v := .int .i64 d) rfl
     have qX0e:=X0.out.cell (i:=4) (v := .int .i64 lo) rfl
     have qX0f:=X0.out.cell (i:=5) (v := .int .i64 hi) rfl
     have rl_X0:=X0.out.lt
     go_wp2_with fail
     clear qX0a qX0b qX0c qX0d qX0e qX0f rl_X0
     refine Calls.mono (rwithin_v _ _ _ H3.out (by decide) _) ?_
     rintro e x4 ⟨rfl,hb⟩
     replace X0:=Kp X0 hb
     replace HB:=Tp HB hb
     clear hb
     cases p3 with
     | false =>
      go_wp2_with fail
      go_ret
      exact ⟨by rw [HE.out];simp [hc],HB.out⟩
     | true =>
      obtain ⟨qX0a,qX0b,qX0c,qX0d,qX0e,qX0f⟩:=cl6 X0
      have rl_X0:=X0.out.lt
      go_wp2_with fail
      clear qX0a qX0b qX0c qX0d qX0e qX0f rl_X0
      refine Calls.mono (rwithin_v _ _ _ H4.out (by decide) _) ?_
      rintro e x5 ⟨rfl,hb⟩
      replace X0:=Kp X0 hb
      replace HB:=Tp HB hb
      clear hb
      cases p4 with
      | false =>
       go_wp2_with fail
       go_ret
       exact ⟨by rw [HE.out];simp [hc],HB.out⟩
      | true =>
       obtain ⟨qX0a,qX0b,qX0c,qX0d,qX0e,qX0f⟩:=cl6 X0
       have rl_X0:=X0.out.lt
       go_wp2_with fail
       clear qX0a qX0b qX0c qX0d qX0e qX0f rl_X0
       go_ret
       exact ⟨by rw [HE.out];simp [hc],HB.out⟩
theorem rmaystrip_v (a b c d lo hi:Int) (m:Bool) (h:St.may ⟨a,b,c,d,lo,hi⟩=m) (w:World) :
  Calls Tryz.prog 37 #[stC a b c d lo hi] w fun e w'=>e = .returned (.bool m)∧Below w.heap.size w w':=by
 subst h;exact rmaystrip_c a b c d lo hi w
theorem rofst_main (a b c d lo hi:Int) (hs:St.may ⟨a,b,c,d,lo,hi⟩=true) (w:World) :
  Calls Tryz.prog 34 #[stC a b c d lo hi] w fun e w'=>(∃ v,e = .returned (.tuple #[v,.int .i64 0])∧InfoQ w' v (ofStl ⟨a,b,c,d,lo,hi⟩))∧Below w.heap.size w w':=by
 have HS:=Lh hs
 have hm:=(St.may_iff _).1 hs
 simp only at hm
 obtain ⟨g,hg⟩:∃ z,2*c=z:=⟨_,rfl⟩
 obtain ⟨h,hh⟩:∃ z,2*d=z:=⟨_,rfl⟩
 obtain ⟨s,hsm⟩:∃ z,lo+hi=z:=⟨_,rfl⟩
 obtain ⟨t,ht⟩:∃ z,hi-lo=z:=⟨_,rfl⟩
 have K:Hid (I64 a∧I64 b∧I64 g∧I64 h∧I64 s∧I64 t):=by unfold Hid I64;omega
 have bc : -16777216≤c∧c≤16777216:=by omega
 have bd : -16777216≤d∧d≤16777216:=by omega
 have bg : -33554432≤g∧g≤33554432:=by omega
 have bh : -33554432≤h∧h≤33554432:=by omega
 have bs : -2251799813685248≤s∧s≤2251799813685248:=by omega
 have bt : -2251799813685248≤t∧t≤2251799813685248:=by omega
 have bl : -1125899906842624≤lo∧lo≤1125899906842624:=by omega
 have bhi : -1125899906842624≤hi∧hi≤1125899906842624:=by omega
 have wg:IntKind.i64.wrap g=g:=by rw [IntKind.wrap_i64];omega
 have wh:IntKind.i64.wrap h=h:=by rw [IntKind.wrap_i64];omega
 have ws:IntKind.i64.wrap s=s:=by rw [IntKind.wrap_i64];omega
 have wt:IntKind.i64.wrap t=t:=by rw [IntKind.wrap_i64];omega
 have SA:=Sm.of64 K.out.1.1 K.out.1.2
 have SB:=Sm.of64 K.out.2.1.1 K.out.2.1.2
 have SG:=Sm.of64 K.out.2.2.1.1 K.out.2.2.1.2
 have SH:=Sm.of64 K.out.2.2.2.1.1 K.out.2.2.2.1.2
 have SS:=Sm.of64 K.out.2.2.2.2.1.1 K.out.2.2.2.2.1.2
 have ST:=Sm.of64 K.out.2.2.2.2.2.1 K.out.2.2.2.2.2.2
 have SGA:=(SG.mul SA).add (SH.mul SB)
 obtain ⟨m,hmm⟩:∃ z,s+(g*a+h*b)=z:=⟨_,rfl⟩
 have SM:Sm 130 m:=by rw [← hmm];exact ((SS.mono (k:=127) (by decide)).add (SGA.mono (k:=127) (by decide))).mono (by decide)
 have HD:Hid (((WI.of g).mul (WI.of a)).add ((WI.of h).mul (WI.of b))=WI.of (g*a+h*b)):=by
  show _=_
  rw [WI.of_mul (SG.lim (by decide)) (SA.lim (by decide)),WI.of_mul (SH.lim (by decide)) (SB.lim (by decide)),WI.of_add ((SG.mul SA).lim (by decide)) ((SH.mul SB).lim (by decide))]
 have HM:Hid ((WI.of s).add (WI.of (g*a+h*b))=WI.of m):=by
  show _=_
  rw [WI.of_add (SS.lim (by decide)) (SGA.lim (by decide)),hmm]
 have P1:Hid ((WI.of g).mul (WI.of g)=WI.of (g*g)):=WI.of_mul (SG.lim (by decide)) (SG.lim (by decide))
 have P2:Hid ((WI.of g).mul (WI.of h)=WI.of (g*h)):=WI.of_mul (SG.lim (by decide)) (SH.lim (by decide))
 have P3:Hid ((WI.of h).mul (WI.of h)=WI.of (h*h)):=WI.of_mul (SH.lim (by decide)) (SH.lim (by decide))
 have P4:Hid ((WI.of m).mul (WI.of g)=WI.of (m*g)):=WI.of_mul (SM.lim (by decide)) (SG.lim (by decide))
 have P5:Hid ((WI.of m).mul (WI.of h)=WI.of (m*h)):=WI.of_mul (SM.lim (by decide)) (SH.lim (by decide))
 have P6:Hid ((WI.of m).mul (WI.of m)=WI.of (m*m)):=WI.of_mul (SM.lim (by decide)) (SM.lim (by decide))
 have P7:Hid ((WI.of t).mul (WI.of t)=WI.of (t*t)):=WI.of_mul (ST.lim (by decide)) (ST.lim (by decide))
 have EV:ofStl ⟨a,b,c,d,lo,hi⟩=⟨g*g,g*h,h*h,m*g,m*h,m*m,t*t⟩:=by
  have e:St.m ⟨a,b,c,d,lo,hi⟩=m:=by unfold St.m;rw [← hmm,← hsm,← hg,← hh];simp only;omega
  unfold ofStl;rw [e];simp only [hg,hh,ht]
 rw [EV]
 show Calls _ _ _ _ fun e w'=>(∃ v,e = .returned (.tuple #[v,.int .i64 0])∧InfoIs w' v (WI.of (g*g)) (WI.of (g*h)) (WI.of (h*h)) (WI.of (m*g)) (WI.of (m*h)) (WI.of (m*m)) (WI.of (t*t)))∧_
 obtain ⟨z0,hz0⟩:∃ z,WI.of (g*g)=z:=⟨_,rfl⟩
 rw [hz0] at P1
 rw [hz0]
 obtain ⟨z1,hz1⟩:∃ z,WI.of (g*h)=z:=⟨_,rfl⟩
 rw [hz1] at P2
 rw [hz1]
 obtain ⟨z2,hz2⟩:∃ z,WI.of (h*h)=z:=⟨_,rfl⟩
 rw [hz2] at P3
 rw [hz2]
 obtain ⟨z3,hz3⟩:∃ z,WI.of (m*g)=z:=⟨_,rfl⟩
 rw [hz3] at P4
 rw [hz3]
 obtain ⟨z4,hz4⟩:∃ z,WI.of (m*h)=z:=⟨_,rfl⟩
 rw [hz4] at P5
 rw [hz4]
 obtain ⟨z5,hz5⟩:∃ z,WI.of (m*m)=z:=⟨_,rfl⟩
 rw [hz5] at P6
 rw [hz5]
 obtain ⟨z6,hz6⟩:∃ z,WI.of (t*t)=z:=⟨_,rfl⟩
 rw [hz6] at P7
 rw [hz6]
 obtain ⟨zD,hzD⟩:∃ z,WI.of (g*a+h*b)=z:=⟨_,rfl⟩
 rw [hzD] at HD HM
 obtain ⟨zM,hzM⟩:∃ z,WI.of m=z:=⟨_,rfl⟩
 rw [hzM] at HM P4 P5 P6
 clear hs hm SA SB SG SH SS ST SGA SM hmm EV hz0 hz1 hz2 hz3 hz4 hz5 hz6 hzD hzM
 go_enter Tryz.func34,Tryz.ntmps34
 go_wp2_with fail
 obtain ⟨u0,hu0⟩:∃ u,u=((w).alloc (Obj.cells #[.int .i64 a,.int .i64 b,.int .i64 c,.int .i64 d,.int .i64 lo,.int .i64 hi] 39)).alloc (Obj.cells #[.bool false,.bool false,.slice none 0 0,.bool false,.bool false,.slice none 0 0,.bool false,.bool false,.slice none 0 0,.bool false,.bool false,.slice none 0 0,.bool false,.bool false,.slice none 0 0,.bool false,.bool false,.slice none 0 0,.bool false,.bool false,.slice none 0 0] 67):=⟨_,rfl⟩
 rw [← hu0]
 have HB:Hid (Below w.heap.size w u0):=by rw [hu0];show Below w.heap.size w _;exact below_byR
 have X0:Hid (Blk u0 (w.heap.size) #[.int .i64 a,.int .i64 b,.int .i64 c,.int .i64 d,.int .i64 lo,.int .i64 hi] 39):=by rw [hu0];exact (Blk.new' _ _ _ (by simp)).alloc _
 have X1:Hid (Blk u0 (w.heap.size+1) #[.bool false,.bool false,.slice none 0 0,.bool false,.bool false,.slice none 0 0,.bool false,.bool false,.slice none 0 0,.bool false,.bool false,.slice none 0 0,.bool false,.bool false,.slice none 0 0,.bool false,.bool false,.slice none 0 0,.bool false,.bool false,.slice none 0 0] 67):=by rw [hu0];exact Blk.new' _ _ _ (by simp)
 clear hu0
 refine Calls.mono (rmaystrip_v _ _ _ _ _ _ _ HS.out _) ?_
 rintro e x1 ⟨rfl,hb⟩
 replace X0:=Kp X0 hb
 replace X1:=Kp X1 hb
 replace HB:=Tp HB hb
 clear hb
 go_wp2_with fail
 have pl:=X0.out.lt
 have pl1:=X1.out.lt
 obtain ⟨qX0a,qX0b,qX0c,qX0d,qX0e,qX0f⟩:=ic6 X0
 have HL:Hid (Below x1.heap.size x1 x1.drew):=(Below.refl _ _).drew
 refine wp_region_ghostD' 12 (fun k=>match k with|4=>some (gBig (WI.of g))|9=>some (gBig (WI.of h))|10=>some (gCell x1.heap.size #[.bool false,.bool false,.slice none 0 0] 65)|11=>some (gCell x1.heap.size #[.bool false,.bool false,.slice none 0 0] 65)|_=>none) (fun _=>[]) (by kernel_rfl) (by kernel_rfl) ?_;apply Ea;apply Ea;apply Ea;apply Ea;apply Eu;apply Ea;apply Ea;apply Ea;apply Ea;apply Eu;apply Eu;apply Eu;refine ⟨[],fun gg NN hN=>?_⟩;simp only [List.append_eq,List.cons_append,List.nil_append,List.take_succ_cons,List.take_zero,List.drop_succ_cons,List.drop_zero];(repeat (refine lexH_quiet rfl ?_;go_big_quiet_step (exact rfl);refine wpQuiet_nil ⟨?hd,?_⟩;(case hd=>exact rfl)));(refine lexH_ghost _ (by rfl) (by rfl) ?hex ?_;(case hex=>(intro px;refine ghost_call (fn:=88) (by go_simp;rfl) ?_;exact rbig_r _ K.out.2.2.1.1 K.out.2.2.1.2 _));simp only [Act.put,sb,sc,sz]);(repeat (refine lexH_quiet rfl ?_;go_big_quiet_step (exact rfl);refine wpQuiet_nil ⟨?hd,?_⟩;(case hd=>exact rfl)));(refine lexH_ghost _ (by rfl) (by rfl) ?hex ?_;(case hex=>(intro px;refine ghost_call (fn:=88) (by go_simp;rfl) ?_;exact rbig_r _ K.out.2.2.2.1.1 K.out.2.2.2.1.2 _));simp only [Act.put,sb,sc,sz]);(refine lexH_ghost _ (by rfl) (by rfl) ?hex ?_;(case hex=>(intro px;exact ghost_alloc (by have:=px.low.size;simp at this;omega) (by first|(go_simp;done)|(go_simp;rfl))));simp only [Act.put,sb,sc,sz]);(refine lexH_ghost _ (by rfl) (by rfl) ?hex ?_;(case hex=>(intro px;exact ghost_alloc (by have:=px.low.size;simp at this;omega) (by first|(go_simp;done)|(go_simp;rfl))));simp only [Act.put,sb,sc,sz])
 refine lexH_nil ?_
 intro x2 hb' hh hd
 have hb:Below x1.heap.size x1 x2:=hb'
 clear hb' HL
 clear qX0a qX0b qX0c qX0d qX0e qX0f
 replace X0:=Kp X0 hb
 replace X1:=Kp X1 hb
 replace HB:=Tp HB hb
 clear hb
 obtain ⟨ng,og,Ag,lg,kg,e4,hg⟩:=(show BigIs x2 (gg 4) (WI.of g) from hh 4 _ (by decide) rfl).lettered
 have Cg:=Lh hg
 rw [e4]
 clear hg e4
 obtain ⟨nh,oh,Ah,lh,kh,e9,hh⟩:=(show BigIs x2 (gg 9) (WI.of h) from hh 9 _ (by decide) rfl).lettered
 have Ch:=Lh hh
 rw [e9]
 clear hh e9
 obtain ⟨gX2,e10,l10,b10⟩:=hh 10 _ (by decide) rfl
 rw [e10]
 obtain ⟨gX3,e11,l11,b11⟩:=hh 11 _ (by decide) rfl
 rw [e11]
 have ne_X2_X3:gX2≠gX3:=hd 10 11 _ _ gX2 gX3 (by decide) (by decide) rfl rfl (by decide) (by rw [e10];rfl) (by rw [e11];rfl)
 have lt_X0_X2:w.heap.size<gX2:=by omega
 have lt_X1_X2:w.heap.size+1<gX2:=by omega
 have gw_X2:w.heap.size≤gX2:=by omega
 have X2:Hid (Blk x2 gX2 #[.bool false,.bool false,.slice none 0 0] 65):=b10
 clear b10 e10
 have lt_X0_X3:w.heap.size<gX3:=by omega
 have lt_X1_X3:w.heap.size+1<gX3:=by omega
 have gw_X3:w.heap.size≤gX3:=by omega
 have X3:Hid (Blk x2 gX3 #[.bool false,.bool false,.slice none 0 0] 65):=b11
 clear b11 e11
 clear hh hd pl pl1
 obtain ⟨qX2a,qX2b,qX2c⟩:=cl3 X2
 have rl_X2:=X2.out.lt
 obtain ⟨qX3a,qX3b,qX3c⟩:=cl3 X3
 have rl_X3:=X3.out.lt
 have fz_X2:=X2.out.frozen
 have ft_X2:=X2.out.fits 3 (by simp)
 have fz_X3:=X3.out.frozen
 have ft_X3:=X3.out.fits 3 (by simp)
 have ne_s:=ne_X2_X3.symm
 go_wp2_with fail
 clear qX2a qX2b qX2c rl_X2 qX3a qX3b qX3c rl_X3 fz_X2 ft_X2 fz_X3 ft_X3
 obtain ⟨v3,hv⟩:∃ v,v=((x2.setCell ⟨gX2,0,none⟩ (.bool ng)).setCell ⟨gX2,1,none⟩ (.bool og)).setCell ⟨gX2,2,none⟩ (.slice Ag lg kg):=⟨_,rfl⟩
 rw [← hv]
 have ho:OnlyAt (gX2) x2 v3:=by rw [hv];exact OnlyAt.refl.set3 _ _ _
 have hn:=hv
 replace Cg:=Lh (Cg.out.only ho X2.out (big_no _ _ _ _ _))
 replace Ch:=Lh (Ch.out.only ho X2.out (big_no _ _ _ _ _))
 replace X0:=Lh (ho.blk X0.out (by omega))
 replace X1:=Lh (ho.blk X1.out (by omega))
 replace X3:=Lh (ho.blk X3.out (by omega))
 replace HB:=Lh (OnlyAt.below ho HB.out (Nat.le_refl _) (by omega))
 replace X2:Hid (Blk v3 (gX2) #[.bool ng,.bool og,.slice Ag lg kg] 65):=by rw [hv];exact X2.out.set3 _ _ _
 clear ho hn hv
 obtain ⟨v4,hv⟩:∃ v,v=((v3.setCell ⟨gX3,0,none⟩ (.bool nh)).setCell ⟨gX3,1,none⟩ (.bool oh)).setCell ⟨gX3,2,none⟩ (.slice Ah lh kh):=⟨_,rfl⟩
 rw [← hv]
 have ho:OnlyAt (gX3) v3 v4:=by rw [hv];exact OnlyAt.refl.set3 _ _ _
 have hn:=hv
 replace Cg:=Lh (Cg.out.only ho X3.out (big_no _ _ _ _ _))
 replace Ch:=Lh (Ch.out.only ho X3.out (big_no _ _ _ _ _))
 replace X0:=Lh (ho.blk X0.out (by omega))
 replace X1:=Lh (ho.blk X1.out (by omega))
 replace X2:=Lh (ho.blk X2.out (by omega))
 replace HB:=Lh (OnlyAt.below ho HB.out (Nat.le_refl _) (by omega))
 replace X3:Hid (Blk v4 (gX3) #[.bool nh,.bool oh,.slice Ah lh kh] 65):=by rw [hv];exact X3.out.set3 _ _ _
 clear ho hn hv
 have plX0:=X0.out.lt
 have plX1:=X1.out.lt
 have plX2:=X2.out.lt
 have plX3:=X3.out.lt
 obtain ⟨qX0a,qX0b,qX0c,qX0d,qX0e,qX0f⟩:=ic6 X0
 obtain ⟨qX2a,qX2b,qX2c⟩:=ic3 X2
 obtain ⟨qX3a,qX3b,qX3c⟩:=ic3 X3
 have HL:Hid (Below v4.heap.size v4 v4.drew):=(Below.refl _ _).drew
 refine wp_region_ghostD' 19 (fun k=>match k with|5=>some (gBig (WI.of s))|10=>some (gBig (WI.of a))|15=>some (gBig (WI.of b))|16=>some (gBig zD)|17=>some (gBig zM)|18=>some (gCell v4.heap.size #[.bool false,.bool false,.slice none 0 0] 65)|_=>none) (fun k=>match k with|16=>[10,15]|17=>[5,16]|_=>[]) (by kernel_rfl) (by kernel_rfl) ?_;apply Ea;apply Ea;apply Ea;apply Ea;apply Ea;apply Eu;apply Ea;apply Ea;apply Ea;apply Ea;apply Eu;apply Ea;apply Ea;apply Ea;apply Ea;apply Eu;apply Eu;apply Eu;apply Eu;refine ⟨[],fun gg NN hN=>?_⟩;simp only [List.append_eq,List.cons_append,List.nil_append,List.take_succ_cons,List.take_zero,List.drop_succ_cons,List.drop_zero];(repeat (refine lexH_quiet rfl ?_;go_big_quiet_step (exact rfl);refine wpQuiet_nil ⟨?hd,?_⟩;(case hd=>exact rfl)));(refine lexH_ghost _ (by rfl) (by rfl) ?hex ?_;(case hex=>(intro px;refine ghost_call (fn:=88) (by go_simp;rfl) ?_;exact rbig_r _ K.out.2.2.2.2.1.1 K.out.2.2.2.2.1.2 _));simp only [Act.put,sb,sc,sz]);(repeat (refine lexH_quiet rfl ?_;go_big_quiet_step (exact rfl);refine wpQuiet_nil ⟨?hd,?_⟩;(case hd=>exact rfl)));(refine lexH_ghost _ (by rfl) (by rfl) ?hex ?_;(case hex=>(intro px;refine ghost_call (fn:=88) (by go_simp;rfl) ?_;exact rbig_r _ K.out.1.1 K.out.1.2 _));simp only [Act.put,sb,sc,sz]);(repeat (refine lexH_quiet rfl ?_;go_big_quiet_step (exact rfl);refine wpQuiet_nil ⟨?hd,?_⟩;(case hd=>exact rfl)));(refine lexH_ghost _ (by rfl) (by rfl) ?hex ?_;(case hex=>(intro px;refine ghost_call (fn:=88) (by go_simp;rfl) ?_;exact rbig_r _ K.out.2.1.1 K.out.2.1.2 _));simp only [Act.put,sb,sc,sz]);(refine lexH_ghost _ (by rfl) (by rfl) ?hex ?_;(case hex=>(intro px;refine ghost_call (fn:=89) (by go_simp;rfl) ?_;exact rdot_x _ _ _ _ _ _ _ _ _ _ HD (Cg.out.below (inh_low HL.out px)) (px.has 10 (hN 16 10 (by simp)) _ rfl) (Ch.out.below (inh_low HL.out px)) (px.has 15 (hN 16 15 (by simp)) _ rfl)));simp only [Act.put,sb,sc,sz]);(refine lexH_ghost _ (by rfl) (by rfl) ?hex ?_;(case hex=>(intro px;refine ghost_call (fn:=92) (by go_simp;rfl) ?_;exact add_x _ _ _ _ _ _ HM (px.has 5 (hN 17 5 (by simp)) _ rfl) (px.has 16 (hN 17 16 (by simp)) _ rfl)));simp only [Act.put,sb,sc,sz]);(refine lexH_ghost _ (by rfl) (by rfl) ?hex ?_;(case hex=>(intro px;exact ghost_alloc (by have:=px.low.size;simp at this;omega) (by first|(go_simp;done)|(go_simp;rfl))));simp only [Act.put,sb,sc,sz])
 refine lexH_nil ?_
 intro x5 hb' hh hd
 have hb:Below v4.heap.size v4 x5:=hb'
 clear hb' HL
 clear qX0a qX0b qX0c qX0d qX0e qX0f qX2a qX2b qX2c qX3a qX3b qX3c
 replace X0:=Kp X0 hb
 replace X1:=Kp X1 hb
 replace X2:=Kp X2 hb
 replace X3:=Kp X3 hb
 replace Cg:=Bp Cg hb
 replace Ch:=Bp Ch hb
 replace HB:=Tp HB hb
 clear hb
 obtain ⟨nm,om,Am,lm,km,e17,hm⟩:=(show BigIs x5 (gg 17) zM from hh 17 _ (by decide) rfl).lettered
 have Cm:=Lh hm
 rw [e17]
 clear hm e17
 obtain ⟨gX4,e18,l18,b18⟩:=hh 18 _ (by decide) rfl
 rw [e18]
 have lt_X0_X4:w.heap.size<gX4:=by omega
 have lt_X1_X4:w.heap.size+1<gX4:=by omega
 have lt_X2_X4:gX2<gX4:=by omega
 have lt_X3_X4:gX3<gX4:=by omega
 have gw_X4:w.heap.size≤gX4:=by omega
 have X4:Hid (Blk x5 gX4 #[.bool false,.bool false,.slice none 0 0] 65):=b18
 clear b18 e18
 clear hh hd plX0 plX1 plX2 plX3
 obtain ⟨qX4a,qX4b,qX4c⟩:=cl3 X4
 have rl_X4:=X4.out.lt
 obtain ⟨qX0a,qX0b,qX0c,qX0d,qX0e,qX0f⟩:=cl6 X0
 have rl_X0:=X0.out.lt
 have fz_X4:=X4.out.frozen
 have ft_X4:=X4.out.fits 3 (by simp)
 go_wp2_with fail
 clear qX4a qX4b qX4c rl_X4 qX0a qX0b qX0c qX0d qX0e qX0f rl_X0 fz_X4 ft_X4
 obtain ⟨v6,hv⟩:∃ v,v=((x5.setCell ⟨gX4,0,none⟩ (.bool nm)).setCell ⟨gX4,1,none⟩ (.bool om)).setCell ⟨gX4,2,none⟩ (.slice Am lm km):=⟨_,rfl⟩
 rw [← hv]
 have ho:OnlyAt (gX4) x5 v6:=by rw [hv];exact OnlyAt.refl.set3 _ _ _
 have hn:=hv
 replace Cg:=Lh (Cg.out.only ho X4.out (big_no _ _ _ _ _))
 replace Ch:=Lh (Ch.out.only ho X4.out (big_no _ _ _ _ _))
 replace Cm:=Lh (Cm.out.only ho X4.out (big_no _ _ _ _ _))
 replace X0:=Lh (ho.blk X0.out (by omega))
 replace X1:=Lh (ho.blk X1.out (by omega))
 replace X2:=Lh (ho.blk X2.out (by omega))
 replace X3:=Lh (ho.blk X3.out (by omega))
 replace HB:=Lh (OnlyAt.below ho HB.out (Nat.le_refl _) (by omega))
 replace X4:Hid (Blk v6 (gX4) #[.bool nm,.bool om,.slice Am lm km] 65):=by rw [hv];exact X4.out.set3 _ _ _
 clear ho hn hv
 refine Calls.mono (rbig_r _ K.out.2.2.2.2.2.1 K.out.2.2.2.2.2.2 _) ?_
 rintro e x7 ⟨⟨v,rfl,hv⟩,hb⟩
 obtain ⟨nt,ot,At,lt,kt,rfl,ht⟩:=hv.lettered
 have Ct:=Lh ht
 clear hv ht
 replace X0:=Kp X0 hb
 replace X1:=Kp X1 hb
 replace X2:=Kp X2 hb
 replace X3:=Kp X3 hb
 replace X4:=Kp X4 hb
 replace Cg:=Bp Cg hb
 replace Ch:=Bp Ch hb
 replace Cm:=Bp Cm hb
 replace HB:=Tp HB hb
 clear hb
 go_wp2_with fail
 obtain ⟨u8,hu⟩:∃ u,u=x7.alloc (Obj.cells #[.bool nt,.bool ot,.slice At lt kt] 65):=⟨_,rfl⟩
 rw [← hu]
 obtain ⟨gX5,hg⟩:∃ g,x7.heap.size=g:=⟨_,rfl⟩
 have lt_X0_X5:w.heap.size<gX5:=by rw [← hg];exact X0.out.lt
 have lt_X1_X5:w.heap.size+1<gX5:=by rw [← hg];exact X1.out.lt
 have lt_X2_X5:gX2<gX5:=by rw [← hg];exact X2.out.lt
 have lt_X3_X5:gX3<gX5:=by rw [← hg];exact X3.out.lt
 have lt_X4_X5:gX4<gX5:=by rw [← hg];exact X4.out.lt
 have gw_X5:w.heap.size≤gX5:=by rw [← hg];exact HB.out.size
 have hb:Below x7.heap.size x7 u8:=by rw [hu];exact (Below.refl _ _).alloc (Nat.le_refl _) _
 replace X0:=Kp X0 hb
 replace X1:=Kp X1 hb
 replace X2:=Kp X2 hb
 replace X3:=Kp X3 hb
 replace X4:=Kp X4 hb
 replace Cg:=Bp Cg hb
 replace Ch:=Bp Ch hb
 replace Cm:=Bp Cm hb
 replace Ct:=Bp Ct hb
 replace HB:=Tp HB hb
 clear hb
 have X5:Hid (Blk u8 gX5 #[.bool nt,.bool ot,.slice At lt kt] 65):=by rw [hu,← hg];exact Blk.new _ _ _
 rw [hg]
 clear hu hg
 obtain ⟨qX2a,qX2b,qX2c⟩:=ic3 X2
 obtain ⟨qX3a,qX3b,qX3c⟩:=ic3 X3
 obtain ⟨qX4a,qX4b,qX4c⟩:=ic3 X4
 obtain ⟨qX5a,qX5b,qX5c⟩:=ic3 X5
 have HL:Hid (Below u8.heap.size u8 u8.drew):=(Below.refl _ _).drew
 refine wp_region_ghost' 21 (fun k=>match k with|2=>some (gBig z0)|5=>some (gBig z1)|8=>some (gBig z2)|11=>some (gBig z3)|14=>some (gBig z4)|17=>some (gBig z5)|20=>some (gBig z6)|_=>none) (fun _=>[]) (by kernel_rfl) (by kernel_rfl) ?_;apply Ea;apply Ea;apply Eu;apply Ea;apply Ea;apply Eu;apply Ea;apply Ea;apply Eu;apply Ea;apply Ea;apply Eu;apply Ea;apply Ea;apply Eu;apply Ea;apply Ea;apply Eu;apply Ea;apply Ea;apply Eu;refine ⟨[],fun gg NN hN=>?_⟩;simp only [List.append_eq,List.cons_append,List.nil_append,List.take_succ_cons,List.take_zero,List.drop_succ_cons,List.drop_zero];(repeat (refine lexH_quiet rfl ?_;go_big_quiet_step (exact rfl);refine wpQuiet_nil ⟨?hd,?_⟩;(case hd=>exact rfl)));(refine lexH_ghost _ (by rfl) (by rfl) ?hex ?_;(case hex=>(intro px;refine ghost_call (fn:=93) (by go_simp;rfl) ?_;exact mul_x _ _ _ _ _ _ P1 (Cg.out.below (inh_low HL.out px)) (Cg.out.below (inh_low HL.out px))));simp only [Act.put,sb,sc,sz]);(repeat (refine lexH_quiet rfl ?_;go_big_quiet_step (exact rfl);refine wpQuiet_nil ⟨?hd,?_⟩;(case hd=>exact rfl)));(refine lexH_ghost _ (by rfl) (by rfl) ?hex ?_;(case hex=>(intro px;refine ghost_call (fn:=93) (by go_simp;rfl) ?_;exact mul_x _ _ _ _ _ _ P2 (Cg.out.below (inh_low HL.out px)) (Ch.out.below (inh_low HL.out px))));simp only [Act.put,sb,sc,sz]);(repeat (refine lexH_quiet rfl ?_;go_big_quiet_step (exact rfl);refine wpQuiet_nil ⟨?hd,?_⟩;(case hd=>exact rfl)));(refine lexH_ghost _ (by rfl) (by rfl) ?hex ?_;(case hex=>(intro px;refine ghost_call (fn:=93) (by go_simp;rfl) ?_;exact mul_x _ _ _ _ _ _ P3 (Ch.out.below (inh_low HL.out px)) (Ch.out.below (inh_low HL.out px))));simp only [Act.put,sb,sc,sz]);(repeat (refine lexH_quiet rfl ?_;go_big_quiet_step (exact rfl);refine wpQuiet_nil ⟨?hd,?_⟩;(case hd=>exact rfl)));(refine lexH_ghost _ (by rfl) (by rfl) ?hex ?_;(case hex=>(intro px;refine ghost_call (fn:=93) (by go_simp;rfl) ?_;exact mul_x _ _ _ _ _ _ P4 (Cm.out.below (inh_low HL.out px)) (Cg.out.below (inh_low HL.out px))));simp only [Act.put,sb,sc,sz]);(repeat (refine lexH_quiet rfl ?_;go_big_quiet_step (exact rfl);refine wpQuiet_nil ⟨?hd,?_⟩;(case hd=>exact rfl)));(refine lexH_ghost _ (by rfl) (by rfl) ?hex ?_;(case hex=>(intro px;refine ghost_call (fn:=93) (by go_simp;rfl) ?_;exact mul_x _ _ _ _ _ _ P5 (Cm.out.below (inh_low HL.out px)) (Ch.out.below (inh_low HL.out px))));simp only [Act.put,sb,sc,sz]);(repeat (refine lexH_quiet rfl ?_;go_big_quiet_step (exact rfl);refine wpQuiet_nil ⟨?hd,?_⟩;(case hd=>exact rfl)));(refine lexH_ghost _ (by rfl) (by rfl) ?hex ?_;(case hex=>(intro px;refine ghost_call (fn:=93) (by go_simp;rfl) ?_;exact mul_x _ _ _ _ _ _ P6 (Cm.out.below (inh_low HL.out px)) (Cm.out.below (inh_low HL.out px))));simp only [Act.put,sb,sc,sz]);(repeat (refine lexH_quiet rfl ?_;go_big_quiet_step (exact rfl);refine wpQuiet_nil ⟨?hd,?_⟩;(case hd=>exact rfl)));(refine lexH_ghost _ (by rfl) (by rfl) ?hex ?_;(case hex=>(intro px;refine ghost_call (fn:=93) (by go_simp;rfl) ?_;exact mul_x _ _ _ _ _ _ P7 (Ct.out.below (inh_low HL.out px)) (Ct.out.below (inh_low HL.out px))));simp only [Act.put,sb,sc,sz])
 refine lexH_nil ?_
 intro x9 hb' hh
 have hb:Below u8.heap.size u8 x9:=hb'
 clear hb' HL
 clear qX2a qX2b qX2c qX3a qX3b qX3c qX4a qX4b qX4c qX5a qX5b qX5c
 replace X0:=Kp X0 hb
 replace X1:=Kp X1 hb
 replace X2:=Kp X2 hb
 replace X3:=Kp X3 hb
 replace X4:=Kp X4 hb
 replace X5:=Kp X5 hb
 replace Cg:=Bp Cg hb
 replace Ch:=Bp Ch hb
 replace Cm:=Bp Cm hb
 replace Ct:=Bp Ct hb
 replace HB:=Tp HB hb
 clear hb
 obtain ⟨n0,o0,A0,l0,k0,e2,h0⟩:=(show BigIs x9 (gg 2) z0 from hh 2 _ (by decide) rfl).lettered
 have C0:=Lh h0
 rw [e2]
 clear h0 e2
 obtain ⟨n1,o1,A1,l1,k1,e5,h1⟩:=(show BigIs x9 (gg 5) z1 from hh 5 _ (by decide) rfl).lettered
 have C1:=Lh h1
 rw [e5]
 clear h1 e5
 obtain ⟨n2,o2,A2,l2,k2,e8,h2⟩:=(show BigIs x9 (gg 8) z2 from hh 8 _ (by decide) rfl).lettered
 have C2:=Lh h2
 rw [e8]
 clear h2 e8
 obtain ⟨n3,o3,A3,l3,k3,e11,h3⟩:=(show BigIs x9 (gg 11) z3 from hh 11 _ (by decide) rfl).lettered
 have C3:=Lh h3
 rw [e11]
 clear h3 e11
 obtain ⟨n4,o4,A4,l4,k4,e14,h4⟩:=(show BigIs x9 (gg 14) z4 from hh 14 _ (by decide) rfl).lettered
 have C4:=Lh h4
 rw [e14]
 clear h4 e14
 obtain ⟨n5,o5,A5,l5,k5,e17,h5⟩:=(show BigIs x9 (gg 17) z5 from hh 17 _ (by decide) rfl).lettered
 have C5:=Lh h5
 rw [e17]
 clear h5 e17
 obtain ⟨n6,o6,A6,l6,k6,e20,h6⟩:=(show BigIs x9 (gg 20) z6 from hh 20 _ (by decide) rfl).lettered
 have C6:=Lh h6
 rw [e20]
 clear h6 e20
 clear hh
 obtain ⟨qX1a,qX1b,qX1c,qX1d,qX1e,qX1f,qX1g,qX1h,qX1i,qX1j,qX1k,qX1l,qX1m,qX1n,qX1o,qX1p,qX1q,qX1r,qX1s,qX1t,qX1u⟩:=cl21 X1
 have rl_X1:=X1.out.lt
 have fz_X1:=X1.out.frozen
 have ft_X1:=X1.out.fits 21 (by simp)
 obtain ⟨IC,hIC⟩:∃ c:Array Value,#[.bool n0,.bool o0,.slice A0 l0 k0,.bool n1,.bool o1,.slice A1 l1 k1,.bool n2,.bool o2,.slice A2 l2 k2,.bool n3,.bool o3,.slice A3 l3 k3,.bool n4,.bool o4,.slice A4 l4 k4,.bool n5,.bool o5,.slice A5 l5 k5,.bool n6,.bool o6,.slice A6 l6 k6]=c:=⟨_,rfl⟩
 have hbl:∀ w,bldI Tryz.prog 67 #[(0,(.agg #[.bool n0,.bool o0,.slice A0 l0 k0])),(1,(.agg #[.bool n1,.bool o1,.slice A1 l1 k1])),(2,(.agg #[.bool n2,.bool o2,.slice A2 l2 k2])),(3,(.agg #[.bool n3,.bool o3,.slice A3 l3 k3])),(4,(.agg #[.bool n4,.bool o4,.slice A4 l4 k4])),(5,(.agg #[.bool n5,.bool o5,.slice A5 l5 k5])),(6,(.agg #[.bool n6,.bool o6,.slice A6 l6 k6]))] w = .ok (.agg IC) w:=fun w=>by rw [← hIC];exact bldI7_run _ _ _ _ _ _ _ _ _ _ _ _ _ _ _ _ _ _ _ _ _ _ _ _ _ _ _ _ _ _ _ _ _ _ _ w
 have s21:IC.size=21:=by rw [← hIC];rfl
 have o21:ones IC=true:=by rw [← hIC];simp [ones,Value.oneCell']
 have pt:=X1.out.put? 0 IC (by rw [s21];exact Nat.le_refl _) o21
 have HIC:Hid (#[.bool n0,.bool o0,.slice A0 l0 k0,.bool n1,.bool o1,.slice A1 l1 k1,.bool n2,.bool o2,.slice A2 l2 k2,.bool n3,.bool o3,.slice A3 l3 k3,.bool n4,.bool o4,.slice A4 l4 k4,.bool n5,.bool o5,.slice A5 l5 k5,.bool n6,.bool o6,.slice A6 l6 k6]=IC):=hIC
 clear hIC
 go_wp2_with fail
 clear qX1a qX1b qX1c qX1d qX1e qX1f qX1g qX1h qX1i qX1j qX1k qX1l qX1m qX1n qX1o qX1p qX1q qX1r qX1s qX1t qX1u rl_X1 fz_X1 ft_X1 pt hbl o21
 obtain ⟨v10,hv⟩:∃ v,v=x9.putRow (w.heap.size+1) 0 IC:=⟨_,rfl⟩
 rw [← hv]
 have ho:OnlyAt (w.heap.size+1) x9 v10:=by rw [hv];exact OnlyAt.refl.putRow 0 IC
 have hn:=hv
 replace Cg:=Lh (Cg.out.only ho X1.out (info_no _ _ _ _ _ _ _ _ _ _ _ _ _ _ _ _ _ _ _ _ _ _ _ _ _ _ _ _ _ _ _ _ _ _ _))
 replace Ch:=Lh (Ch.out.only ho X1.out (info_no _ _ _ _ _ _ _ _ _ _ _ _ _ _ _ _ _ _ _ _ _ _ _ _ _ _ _ _ _ _ _ _ _ _ _))
 replace Cm:=Lh (Cm.out.only ho X1.out (info_no _ _ _ _ _ _ _ _ _ _ _ _ _ _ _ _ _ _ _ _ _ _ _ _ _ _ _ _ _ _ _ _ _ _ _))
 replace Ct:=Lh (Ct.out.only ho X1.out (info_no _ _ _ _ _ _ _ _ _ _ _ _ _ _ _ _ _ _ _ _ _ _ _ _ _ _ _ _ _ _ _ _ _ _ _))
 replace C0:=Lh (C0.out.only ho X1.out (info_no _ _ _ _ _ _ _ _ _ _ _ _ _ _ _ _ _ _ _ _ _ _ _ _ _ _ _ _ _ _ _ _ _ _ _))
 replace C1:=Lh (C1.out.only ho X1.out (info_no _ _ _ _ _ _ _ _ _ _ _ _ _ _ _ _ _ _ _ _ _ _ _ _ _ _ _ _ _ _ _ _ _ _ _))
 replace C2:=Lh (C2.out.only ho X1.out (info_no _ _ _ _ _ _ _ _ _ _ _ _ _ _ _ _ _ _ _ _ _ _ _ _ _ _ _ _ _ _ _ _ _ _ _))
 replace C3:=Lh (C3.out.only ho X1.out (info_no _ _ _ _ _ _ _ _ _ _ _ _ _ _ _ _ _ _ _ _ _ _ _ _ _ _ _ _ _ _ _ _ _ _ _))
 replace C4:=Lh (C4.out.only ho X1.out (info_no _ _ _ _ _ _ _ _ _ _ _ _ _ _ _ _ _ _ _ _ _ _ _ _ _ _ _ _ _ _ _ _ _ _ _))
 replace C5:=Lh (C5.out.only ho X1.out (info_no _ _ _ _ _ _ _ _ _ _ _ _ _ _ _ _ _ _ _ _ _ _ _ _ _ _ _ _ _ _ _ _ _ _ _))
 replace C6:=Lh (C6.out.only ho X1.out (info_no _ _ _ _ _ _ _ _ _ _ _ _ _ _ _ _ _ _ _ _ _ _ _ _ _ _ _ _ _ _ _ _ _ _ _))
 replace X0:=Lh (ho.blk X0.out (by omega))
 replace X2:=Lh (ho.blk X2.out (by omega))
 replace X3:=Lh (ho.blk X3.out (by omega))
 replace X4:=Lh (ho.blk X4.out (by omega))
 replace X5:=Lh (ho.blk X5.out (by omega))
 replace HB:=Lh (OnlyAt.below ho HB.out (Nat.le_refl _) (by omega))
 replace X1:Hid (Blk v10 (w.heap.size+1) #[.bool n0,.bool o0,.slice A0 l0 k0,.bool n1,.bool o1,.slice A1 l1 k1,.bool n2,.bool o2,.slice A2 l2 k2,.bool n3,.bool o3,.slice A3 l3 k3,.bool n4,.bool o4,.slice A4 l4 k4,.bool n5,.bool o5,.slice A5 l5 k5,.bool n6,.bool o6,.slice A6 l6 k6] 67):=by rw [hv,← HIC.out];exact (X1.out.over (d:=#[.bool n0,.bool o0,.slice A0 l0 k0,.bool n1,.bool o1,.slice A1 l1 k1,.bool n2,.bool o2,.slice A2 l2 k2,.bool n3,.bool o3,.slice A3 l3 k3,.bool n4,.bool o4,.slice A4 l4 k4,.bool n5,.bool o5,.slice A5 l5 k5,.bool n6,.bool o6,.slice A6 l6 k6]) rfl)
 clear ho hn hv
 exact bodyPost_row_t 21 #[.bool n0,.bool o0,.slice A0 l0 k0,.bool n1,.bool o1,.slice A1 l1 k1,.bool n2,.bool o2,.slice A2 l2 k2,.bool n3,.bool o3,.slice A3 l3 k3,.bool n4,.bool o4,.slice A4 l4 k4,.bool n5,.bool o5,.slice A5 l5 k5,.bool n6,.bool o6,.slice A6 l6 k6] (.int .i64 0) rfl rfl rfl rfl Tryz.underlying67 rfl rinfo_info (X1.out.row?_all 21 rfl) ⟨⟨_,rfl,_,_,_,_,_,_,_,_,_,_,_,_,_,_,_,_,_,_,_,_,_,_,_,_,_,_,_,_,_,_,_,_,_,_,_,rfl,C0.out,C1.out,C2.out,C3.out,C4.out,C5.out,C6.out⟩,HB.out⟩
theorem rofst_c (a b c d lo hi:Int) (w:World) :
  Calls Tryz.prog 34 #[stC a b c d lo hi] w fun e w'=>(∃ v,e = .returned (.tuple #[v,.int .i64 (ofSt ⟨a,b,c,d,lo,hi⟩).2])∧InfoQ w' v (ofSt ⟨a,b,c,d,lo,hi⟩).1)∧Below w.heap.size w w':=by
 cases he:St.may ⟨a,b,c,d,lo,hi⟩ with
 | true =>
  have h:ofSt ⟨a,b,c,d,lo,hi⟩=(ofStl ⟨a,b,c,d,lo,hi⟩,0):=by unfold ofSt;rw [if_pos he]
  rw [h];exact rofst_main a b c d lo hi he w
 | false =>
  have h:ofSt ⟨a,b,c,d,lo,hi⟩=(Iq.zero,1):=by unfold ofSt;rw [he,if_neg (by decide)]
  rw [h];show Calls _ _ _ _ fun e w'=>(∃ v,e = .returned (.tuple #[v,.int .i64 1])∧InfoQ w' v Iq.zero)∧_
  have HE:=Lh he
  clear he h
  go_enter Tryz.func34,Tryz.ntmps34
  go_wp2_with fail
  obtain ⟨u0,hu0⟩:∃ u,u=((w).alloc (Obj.cells #[.int .i64 a,.int .i64 b,.int .i64 c,.int .i64 d,.int .i64 lo,.int .i64 hi] 39)).alloc (Obj.cells #[.bool false,.bool false,.slice none 0 0,.bool false,.bool false,.slice none 0 0,.bool false,.bool false,.slice none 0 0,.bool false,.bool false,.slice none 0 0,.bool false,.bool false,.slice none 0 0,.bool false,.bool false,.slice none 0 0,.bool false,.bool false,.slice none 0 0] 67):=⟨_,rfl⟩
  rw [← hu0]
  have HB:Hid (Below w.heap.size w u0):=by rw [hu0];show Below w.heap.size w _;exact below_byR
  have X0:Hid (Blk u0 (w.heap.size) #[.int .i64 a,.int .i64 b,.int .i64 c,.int .i64 d,.int .i64 lo,.int .i64 hi] 39):=by rw [hu0];exact (Blk.new' _ _ _ (by simp)).alloc _
  have X1:Hid (Blk u0 (w.heap.size+1) #[.bool false,.bool false,.slice none 0 0,.bool false,.bool false,.slice none 0 0,.bool false,.bool false,.slice none 0 0,.bool false,.bool false,.slice none 0 0,.bool false,.bool false,.slice none 0 0,.bool false,.bool false,.slice none 0 0,.bool false,.bool false,.slice none 0 0] 67):=by rw [hu0];exact Blk.new' _ _ _ (by simp)
  clear hu0
  refine Calls.mono (rmaystrip_v _ _ _ _ _ _ _ HE.out _) ?_
  rintro e x1 ⟨rfl,hb⟩
  replace X0:=Kp X0 hb
  replace X1:=Kp X1 hb
  replace HB:=Tp HB hb
  clear hb
  obtain ⟨qX1a,qX1b,qX1c,qX1d,qX1e,qX1f,qX1g,qX1h,qX1i,qX1j,qX1k,qX1l,qX1m,qX1n,qX1o,qX1p,qX1q,qX1r,qX1s,qX1t,qX1u⟩:=cl21 X1
  have rl_X1:=X1.out.lt
  have fz_X1:=X1.out.frozen
  have ft_X1:=X1.out.fits 21 (by simp)
  obtain ⟨IC,hIC⟩:∃ c:Array Value,#[.bool false,.bool false,.slice none 0 0,.bool false,.bool false,.slice none 0 0,.bool false,.bool false,.slice none 0 0,.bool false,.bool false,.slice none 0 0,.bool false,.bool false,.slice none 0 0,.bool false,.bool false,.slice none 0 0,.bool false,.bool false,.slice none 0 0]=c:=⟨_,rfl⟩
  have hbl:∀ w,bldI Tryz.prog 67 #[] w = .ok (.agg IC) w:=fun w=>by rw [← hIC];exact bldI0_run w
  have s21:IC.size=21:=by rw [← hIC];rfl
  have o21:ones IC=true:=by rw [← hIC];simp [ones,Value.oneCell']
  have pt:=X1.out.put? 0 IC (by rw [s21];exact Nat.le_refl _) o21
  have HIC:Hid (#[.bool false,.bool false,.slice none 0 0,.bool false,.bool false,.slice none 0 0,.bool false,.bool false,.slice none 0 0,.bool false,.bool false,.slice none 0 0,.bool false,.bool false,.slice none 0 0,.bool false,.bool false,.slice none 0 0,.bool false,.bool false,.slice none 0 0]=IC):=hIC
  clear hIC
  go_wp2_with fail
  clear qX1a qX1b qX1c qX1d qX1e qX1f qX1g qX1h qX1i qX1j qX1k qX1l qX1m qX1n qX1o qX1p qX1q qX1r qX1s qX1t qX1u rl_X1 fz_X1 ft_X1 pt hbl o21
  obtain ⟨v2,hv⟩:∃ v,v=x1.putRow (w.heap.size+1) 0 IC:=⟨_,rfl⟩
  rw [← hv]
  have ho:OnlyAt (w.heap.size+1) x1 v2:=by rw [hv];exact OnlyAt.refl.putRow 0 IC
  have hn:=hv
  replace X0:=Lh (ho.blk X0.out (by omega))
  replace HB:=Lh (OnlyAt.below ho HB.out (Nat.le_refl _) (by omega))
  replace X1:Hid (Blk v2 (w.heap.size+1) #[.bool false,.bool false,.slice none 0 0,.bool false,.bool false,.slice none 0 0,.bool false,.bool false,.slice none 0 0,.bool false,.bool false,.slice none 0 0,.bool false,.bool false,.slice none 0 0,.bool false,.bool false,.slice none 0 0,.bool false,.bool false,.slice none 0 0] 67):=by rw [hv,← HIC.out];exact (X1.out.over (d:=#[.bool false,.bool false,.slice none 0 0,.bool false,.bool false,.slice none 0 0,.bool false,.bool false,.slice none 0 0,.bool false,.bool false,.slice none 0 0,.bool false,.bool false,.slice none 0 0,.bool false,.bool false,.slice none 0 0,.bool false,.bool false,.slice none 0 0]) rfl)
  clear ho hn hv
  exact bodyPost_row_t 21 #[.bool false,.bool false,.slice none 0 0,.bool false,.bool false,.slice none 0 0,.bool false,.bool false,.slice none 0 0,.bool false,.bool false,.slice none 0 0,.bool false,.bool false,.slice none 0 0,.bool false,.bool false,.slice none 0 0,.bool false,.bool false,.slice none 0 0] (.int .i64 1) rfl rfl rfl rfl Tryz.underlying67 rfl rinfo_info (X1.out.row?_all 21 rfl) ⟨⟨_,rfl,zeroInfo _⟩,HB.out⟩
end Go.Proofs.YtilginoibhfeiaaGreat
