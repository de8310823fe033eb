/- Info.Has of the document. -/
import Derived.Test.YtilginoibhfeiaaGreatRJ
import Derived.Test.YtilginoibhfeiaaGreatYl
import Derived.Test.YtilginoibhfeiaaGreatY6
import Derived.Test.YtilginoibhfeiaaGreatZu
set_option maxRecDepth 100000
set_option maxHeartbeats 16000000
namespace Go.Proofs.YtilginoibhfeiaaGreat
set_option linter.unusedSimpArgs false
open Go.RowKit
theorem rhas_far (u:Value) (z0 z1 z2 z3 z4 z5 z6:WI) (p q:Int) (w:World) (hall:Hid (overB [z0,z1,z2,z3,z4,z5,z6]=false)) (hi:InfoIs w u z0 z1 z2 z3 z4 z5 z6) (hf:Hid ((wiB p 1073741824&&wiB q 1073741824)=false)) :
  Calls Tryz.prog 39 #[u,ptV p q] w fun e w'=>e = .returned (.bool false)∧Below w.heap.size w w':=by
 obtain ⟨va,hk1⟩:∃ k,wiB p 1073741824=k:=⟨_,rfl⟩
 obtain ⟨vb,hk2⟩:∃ k,wiB q 1073741824=k:=⟨_,rfl⟩
 have HK1:=Lh hk1
 have HK2:=Lh hk2
 have hff:=hf.out
 rw [hk1,hk2] at hff
 have HF:=Lh hff
 clear hk1 hk2 hf hff
 obtain ⟨n0,o0,A0,l0,k0,n1,o1,A1,l1,k1,n2,o2,A2,l2,k2,n3,o3,A3,l3,k3,n4,o4,A4,l4,k4,n5,o5,A5,l5,k5,n6,o6,A6,l6,k6,rfl,h0,h1,h2,h3,h4,h5,h6⟩:=hi
 have C0:=Lh h0
 have C1:=Lh h1
 have C2:=Lh h2
 have C3:=Lh h3
 have C4:=Lh h4
 have C5:=Lh h5
 have C6:=Lh h6
 clear h0 h1 h2 h3 h4 h5 h6
 go_enter Tryz.func39,Tryz.ntmps39
 go_wp2_with fail
 obtain ⟨u0,hu0⟩:∃ u,u=((w).alloc (Obj.cells #[.bool n0,.bool o0,.slice A0 l0 k0,.bool n1,.bool o1,.slice A1 l1 k1,.bool n2,.bool o2,.slice A2 l2 k2,.bool n3,.bool o3,.slice A3 l3 k3,.bool n4,.bool o4,.slice A4 l4 k4,.bool n5,.bool o5,.slice A5 l5 k5,.bool n6,.bool o6,.slice A6 l6 k6] 67)).alloc (Obj.cells #[.int .i64 p,.int .i64 q] 23):=⟨_,rfl⟩
 rw [← hu0]
 have HB:Hid (Below w.heap.size w u0):=by rw [hu0];show Below w.heap.size w _;exact below_byR
 have X0:Hid (Blk u0 (w.heap.size) #[.bool n0,.bool o0,.slice A0 l0 k0,.bool n1,.bool o1,.slice A1 l1 k1,.bool n2,.bool o2,.slice A2 l2 k2,.bool n3,.bool o3,.slice A3 l3 k3,.bool n4,.bool o4,.slice A4 l4 k4,.bool n5,.bool o5,.slice A5 l5 k5,.bool n6,.bool o6,.slice A6 l6 k6] 67):=by rw [hu0];exact (Blk.new' _ _ _ (by simp)).alloc _
 have X1:Hid (Blk u0 (w.heap.size+1) #[.int .i64 p,.int .i64 q] 23):=by rw [hu0];exact Blk.new' _ _ _ (by simp)
 replace C0:=Lh (C0.out.below (show Below w.heap.size w u0 from HB.out))
 replace C1:=Lh (C1.out.below (show Below w.heap.size w u0 from HB.out))
 replace C2:=Lh (C2.out.below (show Below w.heap.size w u0 from HB.out))
 replace C3:=Lh (C3.out.below (show Below w.heap.size w u0 from HB.out))
 replace C4:=Lh (C4.out.below (show Below w.heap.size w u0 from HB.out))
 replace C5:=Lh (C5.out.below (show Below w.heap.size w u0 from HB.out))
 replace C6:=Lh (C6.out.below (show Below w.heap.size w u0 from HB.out))
 clear hu0
 refine Calls.mono (rover_c _ z0 z1 z2 z3 z4 z5 z6 _ hall.out ⟨_,_,_,_,_,_,_,_,_,_,_,_,_,_,_,_,_,_,_,_,_,_,_,_,_,_,_,_,_,_,_,_,_,_,_,rfl,C0.out,C1.out,C2.out,C3.out,C4.out,C5.out,C6.out⟩) ?_
 rintro e x1 ⟨rfl,hb⟩
 replace X0:=Kp X0 hb
 replace X1:=Kp X1 hb
 replace C0:=Bp C0 hb
 replace C1:=Bp C1 hb
 replace C2:=Bp C2 hb
 replace C3:=Bp C3 hb
 replace C4:=Bp C4 hb
 replace C5:=Bp C5 hb
 replace C6:=Bp C6 hb
 replace HB:=Tp HB hb
 clear hb
 obtain ⟨qX1a,qX1b⟩:=cl2 X1
 have rl_X1:=X1.out.lt
 go_wp2_with fail
 clear qX1a qX1b rl_X1
 refine Calls.mono (rwithin_v _ _ _ HK1.out (by decide) _) ?_
 rintro e x2 ⟨rfl,hb⟩
 replace X0:=Kp X0 hb
 replace X1:=Kp X1 hb
 replace C0:=Bp C0 hb
 replace C1:=Bp C1 hb
 replace C2:=Bp C2 hb
 replace C3:=Bp C3 hb
 replace C4:=Bp C4 hb
 replace C5:=Bp C5 hb
 replace C6:=Bp C6 hb
 replace HB:=Tp HB hb
 clear hb
 cases va with
 | false =>
  go_wp2_with fail
  go_ret
  exact ⟨rfl,HB.out⟩
 | true =>
  obtain rfl:vb=false:=by have:=HF.out;simpa using this
  obtain ⟨qX1a,qX1b⟩:=cl2 X1
  have rl_X1:=X1.out.lt
  go_wp2_with fail
  clear qX1a qX1b rl_X1
  refine Calls.mono (rwithin_v _ _ _ HK2.out (by decide) _) ?_
  rintro e x3 ⟨rfl,hb⟩
  replace X0:=Kp X0 hb
  replace X1:=Kp X1 hb
  replace C0:=Bp C0 hb
  replace C1:=Bp C1 hb
  replace C2:=Bp C2 hb
  replace C3:=Bp C3 hb
  replace C4:=Bp C4 hb
  replace C5:=Bp C5 hb
  replace C6:=Bp C6 hb
  replace HB:=Tp HB hb
  clear hb
  go_wp2_with fail
  go_ret
  exact ⟨rfl,HB.out⟩
theorem rhas_main (u:Value) (z0 z1 z2 z3 z4 z5 z6:WI) (p q:Int) (pp qq dt pq tp zq t1 d2 m2 t2 t3:WI) (w:World) (h_pp:Hid ((WI.of p).mul (WI.of p)=pp)) (h_qq:Hid ((WI.of q).mul (WI.of q)=qq)) (h_dt:Hid ((z0.mul pp).add (z2.mul qq)=dt)) (h_pq:Hid ((WI.of p).mul (WI.of q)=pq)) (h_tp:Hid ((WI.of 2).mul pq=tp)) (h_zq:Hid (z1.mul tp=zq)) (h_t1:Hid (dt.add zq=t1)) (h_d2:Hid ((z3.mul (WI.of p)).add (z4.mul (WI.of q))=d2)) (h_m2:Hid ((WI.of 2).mul d2=m2)) (h_t2:Hid (t1.sub m2=t2)) (h_t3:Hid (t2.add z5=t3)) (sg:Int) (hcm:Hid (t3.cmp z6=(sg,true))) (hov:Hid (t3.ov=false)) (hall:Hid (overB [z0,z1,z2,z3,z4,z5,z6]=false)) (hi:InfoIs w u z0 z1 z2 z3 z4 z5 z6) (hp:Hid (wiB p 1073741824=true)) (hq:Hid (wiB q 1073741824=true)) :
  Calls Tryz.prog 39 #[u,ptV p q] w fun e w'=>e = .returned (.bool (decide (sg≤0)))∧Below w.heap.size w w':=by
 have KP:Hid (I64 p∧I64 q∧I64 2):=by have h1:=hp.out;have h2:=hq.out;simp [wiB] at h1 h2;unfold Hid I64;omega
 obtain ⟨n0,o0,A0,l0,k0,n1,o1,A1,l1,k1,n2,o2,A2,l2,k2,n3,o3,A3,l3,k3,n4,o4,A4,l4,k4,n5,o5,A5,l5,k5,n6,o6,A6,l6,k6,rfl,h0,h1,h2,h3,h4,h5,h6⟩:=hi
 have C0:=Lh h0
 have C1:=Lh h1
 have C2:=Lh h2
 have C3:=Lh h3
 have C4:=Lh h4
 have C5:=Lh h5
 have C6:=Lh h6
 clear h0 h1 h2 h3 h4 h5 h6
 go_enter Tryz.func39,Tryz.ntmps39
 go_wp2_with fail
 obtain ⟨u0,hu0⟩:∃ u,u=((w).alloc (Obj.cells #[.bool n0,.bool o0,.slice A0 l0 k0,.bool n1,.bool o1,.slice A1 l1 k1,.bool n2,.bool o2,.slice A2 l2 k2,.bool n3,.bool o3,.slice A3 l3 k3,.bool n4,.bool o4,.slice A4 l4 k4,.bool n5,.bool o5,.slice A5 l5 k5,.bool n6,.bool o6,.slice A6 l6 k6] 67)).alloc (Obj.cells #[.int .i64 p,.int .i64 q] 23):=⟨_,rfl⟩
 rw [← hu0]
 have HB:Hid (Below w.heap.size w u0):=by rw [hu0];show Below w.heap.size w _;exact below_byR
 have X0:Hid (Blk u0 (w.heap.size) #[.bool n0,.bool o0,.slice A0 l0 k0,.bool n1,.bool o1,.slice A1 l1 k1,.bool n2,.bool o2,.slice A2 l2 k2,.bool n3,.bool o3,.slice A3 l3 k3,.bool n4,.bool o4,.slice A4 l4 k4,.bool n5,.bool o5,.slice A5 l5 k5,.bool n6,.bool o6,.slice A6 l6 k6] 67):=by rw [hu0];exact (Blk.new' _ _ _ (by simp)).alloc _
 have X1:Hid (Blk u0 (w.heap.size+1) #[.int .i64 p,.int .i64 q] 23):=by rw [hu0];exact Blk.new' _ _ _ (by simp)
 replace C0:=Lh (C0.out.below (show Below w.heap.size w u0 from HB.out))
 replace C1:=Lh (C1.out.below (show Below w.heap.size w u0 from HB.out))
 replace C2:=Lh (C2.out.below (show Below w.heap.size w u0 from HB.out))
 replace C3:=Lh (C3.out.below (show Below w.heap.size w u0 from HB.out))
 replace C4:=Lh (C4.out.below (show Below w.heap.size w u0 from HB.out))
 replace C5:=Lh (C5.out.below (show Below w.heap.size w u0 from HB.out))
 replace C6:=Lh (C6.out.below (show Below w.heap.size w u0 from HB.out))
 clear hu0
 refine Calls.mono (rover_c _ z0 z1 z2 z3 z4 z5 z6 _ hall.out ⟨_,_,_,_,_,_,_,_,_,_,_,_,_,_,_,_,_,_,_,_,_,_,_,_,_,_,_,_,_,_,_,_,_,_,_,rfl,C0.out,C1.out,C2.out,C3.out,C4.out,C5.out,C6.out⟩) ?_
 rintro e x1 ⟨rfl,hb⟩
 replace X0:=Kp X0 hb
 replace X1:=Kp X1 hb
 replace C0:=Bp C0 hb
 replace C1:=Bp C1 hb
 replace C2:=Bp C2 hb
 replace C3:=Bp C3 hb
 replace C4:=Bp C4 hb
 replace C5:=Bp C5 hb
 replace C6:=Bp C6 hb
 replace HB:=Tp HB hb
 clear hb
 obtain ⟨qX1a,qX1b⟩:=cl2 X1
 have rl_X1:=X1.out.lt
 go_wp2_with fail
 clear qX1a qX1b rl_X1
 refine Calls.mono (rwithin_v _ _ _ hp.out (by decide) _) ?_
 rintro e x2 ⟨rfl,hb⟩
 replace X0:=Kp X0 hb
 replace X1:=Kp X1 hb
 replace C0:=Bp C0 hb
 replace C1:=Bp C1 hb
 replace C2:=Bp C2 hb
 replace C3:=Bp C3 hb
 replace C4:=Bp C4 hb
 replace C5:=Bp C5 hb
 replace C6:=Bp C6 hb
 replace HB:=Tp HB hb
 clear hb
 obtain ⟨qX1a,qX1b⟩:=cl2 X1
 have rl_X1:=X1.out.lt
 go_wp2_with fail
 clear qX1a qX1b rl_X1
 refine Calls.mono (rwithin_v _ _ _ hq.out (by decide) _) ?_
 rintro e x3 ⟨rfl,hb⟩
 replace X0:=Kp X0 hb
 replace X1:=Kp X1 hb
 replace C0:=Bp C0 hb
 replace C1:=Bp C1 hb
 replace C2:=Bp C2 hb
 replace C3:=Bp C3 hb
 replace C4:=Bp C4 hb
 replace C5:=Bp C5 hb
 replace C6:=Bp C6 hb
 replace HB:=Tp HB hb
 clear hb
 go_wp2_with fail
 have plX0:=X0.out.lt
 have plX1:=X1.out.lt
 obtain ⟨qX1a,qX1b⟩:=ic2 X1
 have HL:Hid (Below x3.heap.size x3 x3.drew):=(Below.refl _ _).drew
 refine wp_region_ghostD' 8 (fun k=>match k with|2=>some (gBig (WI.of p))|5=>some (gBig (WI.of q))|6=>some (gCell x3.heap.size #[.bool false,.bool false,.slice none 0 0] 65)|7=>some (gCell x3.heap.size #[.bool false,.bool false,.slice none 0 0] 65)|_=>none) (fun _=>[]) (by kernel_rfl) (by kernel_rfl) ?_;apply Ea;apply Ea;apply Eu;apply Ea;apply Ea;apply Eu;apply Eu;apply Eu;refine ⟨[],fun gg NN hN=>?_⟩;simp only [List.append_eq,List.cons_append,List.nil_append,List.take_succ_cons,List.take_zero,List.drop_succ_cons,List.drop_zero];(repeat (refine lexH_quiet rfl ?_;go_big_quiet_step (exact rfl);refine wpQuiet_nil ⟨?hd,?_⟩;(case hd=>exact rfl)));(refine lexH_ghost _ (by rfl) (by rfl) ?hex ?_;(case hex=>(intro px;refine ghost_call (fn:=88) (by go_simp;rfl) ?_;exact rbig_r _ KP.out.1.1 KP.out.1.2 _));simp only [Act.put,sb,sc,sz]);(repeat (refine lexH_quiet rfl ?_;go_big_quiet_step (exact rfl);refine wpQuiet_nil ⟨?hd,?_⟩;(case hd=>exact rfl)));(refine lexH_ghost _ (by rfl) (by rfl) ?hex ?_;(case hex=>(intro px;refine ghost_call (fn:=88) (by go_simp;rfl) ?_;exact rbig_r _ KP.out.2.1.1 KP.out.2.1.2 _));simp only [Act.put,sb,sc,sz]);(refine lexH_ghost _ (by rfl) (by rfl) ?hex ?_;(case hex=>(intro px;exact ghost_alloc (by have:=px.low.size;simp at this;omega) (by first|(go_simp;done)|(go_simp;rfl))));simp only [Act.put,sb,sc,sz]);(refine lexH_ghost _ (by rfl) (by rfl) ?hex ?_;(case hex=>(intro px;exact ghost_alloc (by have:=px.low.size;simp at this;omega) (by first|(go_simp;done)|(go_simp;rfl))));simp only [Act.put,sb,sc,sz])
 refine lexH_nil ?_
 intro x4 hb' hh hd
 have hb:Below x3.heap.size x3 x4:=hb'
 clear hb' HL
 clear qX1a qX1b
 replace X0:=Kp X0 hb
 replace X1:=Kp X1 hb
 replace C0:=Bp C0 hb
 replace C1:=Bp C1 hb
 replace C2:=Bp C2 hb
 replace C3:=Bp C3 hb
 replace C4:=Bp C4 hb
 replace C5:=Bp C5 hb
 replace C6:=Bp C6 hb
 replace HB:=Tp HB hb
 clear hb
 obtain ⟨np,op,Ap,lp,kp,e2,hp⟩:=(show BigIs x4 (gg 2) (WI.of p) from hh 2 _ (by decide) rfl).lettered
 have Cp:=Lh hp
 rw [e2]
 clear hp e2
 obtain ⟨nq,oq,Aq,lq,kq,e5,hq⟩:=(show BigIs x4 (gg 5) (WI.of q) from hh 5 _ (by decide) rfl).lettered
 have Cq:=Lh hq
 rw [e5]
 clear hq e5
 obtain ⟨gXP,e6,l6,b6⟩:=hh 6 _ (by decide) rfl
 rw [e6]
 obtain ⟨gXQ,e7,l7,b7⟩:=hh 7 _ (by decide) rfl
 rw [e7]
 have ne_XP_XQ:gXP≠gXQ:=hd 6 7 _ _ gXP gXQ (by decide) (by decide) rfl rfl (by decide) (by rw [e6];rfl) (by rw [e7];rfl)
 have lt_X0_XP:w.heap.size<gXP:=by omega
 have lt_X1_XP:w.heap.size+1<gXP:=by omega
 have gw_XP:w.heap.size≤gXP:=by omega
 have XP:Hid (Blk x4 gXP #[.bool false,.bool false,.slice none 0 0] 65):=b6
 clear b6 e6
 have lt_X0_XQ:w.heap.size<gXQ:=by omega
 have lt_X1_XQ:w.heap.size+1<gXQ:=by omega
 have gw_XQ:w.heap.size≤gXQ:=by omega
 have XQ:Hid (Blk x4 gXQ #[.bool false,.bool false,.slice none 0 0] 65):=b7
 clear b7 e7
 clear l6 l7
 clear hh hd plX0 plX1
 obtain ⟨qXPa,qXPb,qXPc⟩:=cl3 XP
 have rl_XP:=XP.out.lt
 obtain ⟨qXQa,qXQb,qXQc⟩:=cl3 XQ
 have rl_XQ:=XQ.out.lt
 have fz_XP:=XP.out.frozen
 have ft_XP:=XP.out.fits 3 (by simp)
 have fz_XQ:=XQ.out.frozen
 have ft_XQ:=XQ.out.fits 3 (by simp)
 have ns_0_1:=ne_XP_XQ.symm
 go_upto_region 4 with fail
 clear qXPa qXPb qXPc rl_XP qXQa qXQb qXQc rl_XQ fz_XP ft_XP fz_XQ ft_XQ
 obtain ⟨v5,hv⟩:∃ v,v=((x4.setCell ⟨gXP,0,none⟩ (.bool np)).setCell ⟨gXP,1,none⟩ (.bool op)).setCell ⟨gXP,2,none⟩ (.slice Ap lp kp):=⟨_,rfl⟩
 rw [← hv]
 have ho:OnlyAt (gXP) x4 v5:=by rw [hv];exact OnlyAt.refl.set3 _ _ _
 have hn:=hv
 replace C0:=Lh (C0.out.only ho XP.out (big_no _ _ _ _ _))
 replace C1:=Lh (C1.out.only ho XP.out (big_no _ _ _ _ _))
 replace C2:=Lh (C2.out.only ho XP.out (big_no _ _ _ _ _))
 replace C3:=Lh (C3.out.only ho XP.out (big_no _ _ _ _ _))
 replace C4:=Lh (C4.out.only ho XP.out (big_no _ _ _ _ _))
 replace C5:=Lh (C5.out.only ho XP.out (big_no _ _ _ _ _))
 replace C6:=Lh (C6.out.only ho XP.out (big_no _ _ _ _ _))
 replace Cp:=Lh (Cp.out.only ho XP.out (big_no _ _ _ _ _))
 replace Cq:=Lh (Cq.out.only ho XP.out (big_no _ _ _ _ _))
 replace X0:=Lh (ho.blk X0.out (by omega))
 replace X1:=Lh (ho.blk X1.out (by omega))
 replace XQ:=Lh (ho.blk XQ.out (by omega))
 replace HB:=Lh (OnlyAt.below ho HB.out (Nat.le_refl _) (by omega))
 replace XP:Hid (Blk v5 (gXP) #[.bool np,.bool op,.slice Ap lp kp] 65):=by rw [hv];exact XP.out.set3 _ _ _
 clear ho hn hv
 obtain ⟨v6,hv⟩:∃ v,v=((v5.setCell ⟨gXQ,0,none⟩ (.bool nq)).setCell ⟨gXQ,1,none⟩ (.bool oq)).setCell ⟨gXQ,2,none⟩ (.slice Aq lq kq):=⟨_,rfl⟩
 rw [← hv]
 have ho:OnlyAt (gXQ) v5 v6:=by rw [hv];exact OnlyAt.refl.set3 _ _ _
 have hn:=hv
 replace C0:=Lh (C0.out.only ho XQ.out (big_no _ _ _ _ _))
 replace C1:=Lh (C1.out.only ho XQ.out (big_no _ _ _ _ _))
 replace C2:=Lh (C2.out.only ho XQ.out (big_no _ _ _ _ _))
 replace C3:=Lh (C3.out.only ho XQ.out (big_no _ _ _ _ _))
 replace C4:=Lh (C4.out.only ho XQ.out (big_no _ _ _ _ _))
 replace C5:=Lh (C5.out.only ho XQ.out (big_no _ _ _ _ _))
 replace C6:=Lh (C6.out.only ho XQ.out (big_no _ _ _ _ _))
 replace Cp:=Lh (Cp.out.only ho XQ.out (big_no _ _ _ _ _))
 replace Cq:=Lh (Cq.out.only ho XQ.out (big_no _ _ _ _ _))
 replace X0:=Lh (ho.blk X0.out (by omega))
 replace X1:=Lh (ho.blk X1.out (by omega))
 replace XP:=Lh (ho.blk XP.out (by omega))
 replace HB:=Lh (OnlyAt.below ho HB.out (Nat.le_refl _) (by omega))
 replace XQ:Hid (Blk v6 (gXQ) #[.bool nq,.bool oq,.slice Aq lq kq] 65):=by rw [hv];exact XQ.out.set3 _ _ _
 clear ho hn hv
 have plX0:=X0.out.lt
 have plX1:=X1.out.lt
 have plXP:=XP.out.lt
 have plXQ:=XQ.out.lt
 obtain ⟨qX0a,qX0b,qX0c,qX0d,qX0e,qX0f,qX0g,qX0h,qX0i,qX0j,qX0k,qX0l,qX0m,qX0n,qX0o,qX0p,qX0q,qX0r,qX0s,qX0t,qX0u⟩:=ic21 X0
 obtain ⟨qXPa,qXPb,qXPc⟩:=ic3 XP
 obtain ⟨qXQa,qXQb,qXQc⟩:=ic3 XQ
 have HL:Hid (Below v6.heap.size v6 v6.drew):=(Below.refl _ _).drew
 refine wp_region_ghost' 21 (fun k=>match k with|4=>some (gBig pp)|9=>some (gBig qq)|10=>some (gBig dt)|13=>some (gBig (WI.of 2))|16=>some (gBig pq)|17=>some (gBig tp)|18=>some (gBig zq)|19=>some (gBig t1)|20=>some (gCell v6.heap.size #[.bool false,.bool false,.slice none 0 0] 65)|_=>none) (fun k=>match k with|10=>[4,9]|17=>[13,16]|18=>[17]|19=>[10,18]|_=>[]) (by kernel_rfl) (by kernel_rfl) ?_;apply Ea;apply Ea;apply Ea;apply Ea;apply Eu;apply Ea;apply Ea;apply Ea;apply Ea;apply Eu;apply Eu;apply Ea;apply Ea;apply Eu;apply Ea;apply Ea;apply Eu;apply Eu;apply Eu;apply Eu;apply Eu;refine ⟨[],fun gg NN hN=>?_⟩;simp only [List.append_eq,List.cons_append,List.nil_append,List.take_succ_cons,List.take_zero,List.drop_succ_cons,List.drop_zero];(repeat (refine lexH_quiet rfl ?_;go_big_quiet_step (exact rfl);refine wpQuiet_nil ⟨?hd,?_⟩;(case hd=>exact rfl)));(refine lexH_ghost _ (by rfl) (by rfl) ?hex ?_;(case hex=>(intro px;refine ghost_call (fn:=93) (by go_simp;rfl) ?_;exact mul_x _ _ _ _ _ _ h_pp (Cp.out.below (inh_low HL.out px)) (Cp.out.below (inh_low HL.out px))));simp only [Act.put,sb,sc,sz]);(repeat (refine lexH_quiet rfl ?_;go_big_quiet_step (exact rfl);refine wpQuiet_nil ⟨?hd,?_⟩;(case hd=>exact rfl)));(refine lexH_ghost _ (by rfl) (by rfl) ?hex ?_;(case hex=>(intro px;refine ghost_call (fn:=93) (by go_simp;rfl) ?_;exact mul_x _ _ _ _ _ _ h_qq (Cq.out.below (inh_low HL.out px)) (Cq.out.below (inh_low HL.out px))));simp only [Act.put,sb,sc,sz]);(refine lexH_ghost _ (by rfl) (by rfl) ?hex ?_;(case hex=>(intro px;refine ghost_call (fn:=89) (by go_simp;rfl) ?_;exact rdot_x _ _ _ _ _ _ _ _ _ _ h_dt (C0.out.below (inh_low HL.out px)) (px.has 4 (hN 10 4 (by simp)) _ rfl) (C2.out.below (inh_low HL.out px)) (px.has 9 (hN 10 9 (by simp)) _ rfl)));simp only [Act.put,sb,sc,sz]);(repeat (refine lexH_quiet rfl ?_;go_big_quiet_step (exact rfl);refine wpQuiet_nil ⟨?hd,?_⟩;(case hd=>exact rfl)));(refine lexH_ghost _ (by rfl) (by rfl) ?hex ?_;(case hex=>(intro px;refine ghost_call (fn:=88) (by go_simp;rfl) ?_;exact rbig_r _ KP.out.2.2.1 KP.out.2.2.2 _));simp only [Act.put,sb,sc,sz]);(repeat (refine lexH_quiet rfl ?_;go_big_quiet_step (exact rfl);refine wpQuiet_nil ⟨?hd,?_⟩;(case hd=>exact rfl)));(refine lexH_ghost _ (by rfl) (by rfl) ?hex ?_;(case hex=>(intro px;refine ghost_call (fn:=93) (by go_simp;rfl) ?_;exact mul_x _ _ _ _ _ _ h_pq (Cp.out.below (inh_low HL.out px)) (Cq.out.below (inh_low HL.out px))));simp only [Act.put,sb,sc,sz]);(refine lexH_ghost _ (by rfl) (by rfl) ?hex ?_;(case hex=>(intro px;refine ghost_call (fn:=93) (by go_simp;rfl) ?_;exact mul_x _ _ _ _ _ _ h_tp (px.has 13 (hN 17 13 (by simp)) _ rfl) (px.has 16 (hN 17 16 (by simp)) _ rfl)));simp only [Act.put,sb,sc,sz]);(refine lexH_ghost _ (by rfl) (by rfl) ?hex ?_;(case hex=>(intro px;refine ghost_call (fn:=93) (by go_simp;rfl) ?_;exact mul_x _ _ _ _ _ _ h_zq (C1.out.below (inh_low HL.out px)) (px.has 17 (hN 18 17 (by simp)) _ rfl)));simp only [Act.put,sb,sc,sz]);(refine lexH_ghost _ (by rfl) (by rfl) ?hex ?_;(case hex=>(intro px;refine ghost_call (fn:=92) (by go_simp;rfl) ?_;exact add_x _ _ _ _ _ _ h_t1 (px.has 10 (hN 19 10 (by simp)) _ rfl) (px.has 18 (hN 19 18 (by simp)) _ rfl)));simp only [Act.put,sb,sc,sz]);(refine lexH_ghost _ (by rfl) (by rfl) ?hex ?_;(case hex=>(intro px;exact ghost_alloc (by have:=px.low.size;simp at this;omega) (by first|(go_simp;done)|(go_simp;rfl))));simp only [Act.put,sb,sc,sz])
 refine lexH_nil ?_
 intro x7 hb' hh
 have hb:Below v6.heap.size v6 x7:=hb'
 clear hb' HL
 clear qX0a qX0b qX0c qX0d qX0e qX0f qX0g qX0h qX0i qX0j qX0k qX0l qX0m qX0n qX0o qX0p qX0q qX0r qX0s qX0t qX0u qXPa qXPb qXPc qXQa qXQb qXQc
 replace X0:=Kp X0 hb
 replace X1:=Kp X1 hb
 replace XP:=Kp XP hb
 replace XQ:=Kp XQ hb
 replace C0:=Bp C0 hb
 replace C1:=Bp C1 hb
 replace C2:=Bp C2 hb
 replace C3:=Bp C3 hb
 replace C4:=Bp C4 hb
 replace C5:=Bp C5 hb
 replace C6:=Bp C6 hb
 replace Cp:=Bp Cp hb
 replace Cq:=Bp Cq hb
 replace HB:=Tp HB hb
 clear hb
 obtain ⟨na,oa,Aa,la,ka,e19,ha⟩:=(show BigIs x7 (gg 19) t1 from hh 19 _ (by decide) rfl).lettered
 have Ca:=Lh ha
 rw [e19]
 clear ha e19
 obtain ⟨gXT,e20,l20,b20⟩:=hh 20 _ (by decide) rfl
 rw [e20]
 have lt_X0_XT:w.heap.size<gXT:=by omega
 have lt_X1_XT:w.heap.size+1<gXT:=by omega
 have lt_XP_XT:gXP<gXT:=by omega
 have lt_XQ_XT:gXQ<gXT:=by omega
 have gw_XT:w.heap.size≤gXT:=by omega
 have XT:Hid (Blk x7 gXT #[.bool false,.bool false,.slice none 0 0] 65):=b20
 clear b20 e20
 clear l20
 clear hh plX0 plX1 plXP plXQ
 obtain ⟨qXTa,qXTb,qXTc⟩:=cl3 XT
 have rl_XT:=XT.out.lt
 have fz_XT:=XT.out.frozen
 have ft_XT:=XT.out.fits 3 (by simp)
 go_upto_region 5 with fail
 clear qXTa qXTb qXTc rl_XT fz_XT ft_XT
 obtain ⟨v8,hv⟩:∃ v,v=((x7.setCell ⟨gXT,0,none⟩ (.bool na)).setCell ⟨gXT,1,none⟩ (.bool oa)).setCell ⟨gXT,2,none⟩ (.slice Aa la ka):=⟨_,rfl⟩
 rw [← hv]
 have ho:OnlyAt (gXT) x7 v8:=by rw [hv];exact OnlyAt.refl.set3 _ _ _
 have hn:=hv
 replace C0:=Lh (C0.out.only ho XT.out (big_no _ _ _ _ _))
 replace C1:=Lh (C1.out.only ho XT.out (big_no _ _ _ _ _))
 replace C2:=Lh (C2.out.only ho XT.out (big_no _ _ _ _ _))
 replace C3:=Lh (C3.out.only ho XT.out (big_no _ _ _ _ _))
 replace C4:=Lh (C4.out.only ho XT.out (big_no _ _ _ _ _))
 replace C5:=Lh (C5.out.only ho XT.out (big_no _ _ _ _ _))
 replace C6:=Lh (C6.out.only ho XT.out (big_no _ _ _ _ _))
 replace Cp:=Lh (Cp.out.only ho XT.out (big_no _ _ _ _ _))
 replace Cq:=Lh (Cq.out.only ho XT.out (big_no _ _ _ _ _))
 replace Ca:=Lh (Ca.out.only ho XT.out (big_no _ _ _ _ _))
 replace X0:=Lh (ho.blk X0.out (by omega))
 replace X1:=Lh (ho.blk X1.out (by omega))
 replace XP:=Lh (ho.blk XP.out (by omega))
 replace XQ:=Lh (ho.blk XQ.out (by omega))
 replace HB:=Lh (OnlyAt.below ho HB.out (Nat.le_refl _) (by omega))
 replace XT:Hid (Blk v8 (gXT) #[.bool na,.bool oa,.slice Aa la ka] 65):=by rw [hv];exact XT.out.set3 _ _ _
 clear ho hn hv
 have plX0:=X0.out.lt
 have plX1:=X1.out.lt
 have plXP:=XP.out.lt
 have plXQ:=XQ.out.lt
 have plXT:=XT.out.lt
 obtain ⟨qX0a,qX0b,qX0c,qX0d,qX0e,qX0f,qX0g,qX0h,qX0i,qX0j,qX0k,qX0l,qX0m,qX0n,qX0o,qX0p,qX0q,qX0r,qX0s,qX0t,qX0u⟩:=ic21 X0
 obtain ⟨qXPa,qXPb,qXPc⟩:=ic3 XP
 obtain ⟨qXQa,qXQb,qXQc⟩:=ic3 XQ
 obtain ⟨qXTa,qXTb,qXTc⟩:=ic3 XT
 have HL:Hid (Below v8.heap.size v8 v8.drew):=(Below.refl _ _).drew
 refine wp_region_ghost' 14 (fun k=>match k with|1=>some (gBig (WI.of 2))|8=>some (gBig d2)|9=>some (gBig m2)|10=>some (gBig t2)|13=>some (gBig t3)|_=>none) (fun k=>match k with|9=>[1,8]|10=>[9]|13=>[10]|_=>[]) (by kernel_rfl) (by kernel_rfl) ?_;apply Ea;apply Eu;apply Ea;apply Ea;apply Ea;apply Ea;apply Ea;apply Ea;apply Eu;apply Eu;apply Eu;apply Ea;apply Ea;apply Eu;refine ⟨[],fun gg NN hN=>?_⟩;simp only [List.append_eq,List.cons_append,List.nil_append,List.take_succ_cons,List.take_zero,List.drop_succ_cons,List.drop_zero];(refine lexH_quiet rfl ?_;go_big_quiet_step (exact rfl);refine wpQuiet_nil ⟨?hd,?_⟩;(case hd=>exact rfl));(refine lexH_ghost _ (by rfl) (by rfl) ?hex ?_;(case hex=>(intro px;refine ghost_call (fn:=88) (by go_simp;rfl) ?_;exact rbig_r _ KP.out.2.2.1 KP.out.2.2.2 _));simp only [Act.put,sb,sc,sz]);(repeat (refine lexH_quiet rfl ?_;go_big_quiet_step (exact rfl);refine wpQuiet_nil ⟨?hd,?_⟩;(case hd=>exact rfl)));(refine lexH_ghost _ (by rfl) (by rfl) ?hex ?_;(case hex=>(intro px;refine ghost_call (fn:=89) (by go_simp;rfl) ?_;exact rdot_x _ _ _ _ _ _ _ _ _ _ h_d2 (C3.out.below (inh_low HL.out px)) (Cp.out.below (inh_low HL.out px)) (C4.out.below (inh_low HL.out px)) (Cq.out.below (inh_low HL.out px))));simp only [Act.put,sb,sc,sz]);(refine lexH_ghost _ (by rfl) (by rfl) ?hex ?_;(case hex=>(intro px;refine ghost_call (fn:=93) (by go_simp;rfl) ?_;exact mul_x _ _ _ _ _ _ h_m2 (px.has 1 (hN 9 1 (by simp)) _ rfl) (px.has 8 (hN 9 8 (by simp)) _ rfl)));simp only [Act.put,sb,sc,sz]);(refine lexH_ghost _ (by rfl) (by rfl) ?hex ?_;(case hex=>(intro px;refine ghost_call (fn:=102) (by go_simp;rfl) ?_;exact sub_x _ _ _ _ _ _ h_t2 (Ca.out.below (inh_low HL.out px)) (px.has 9 (hN 10 9 (by simp)) _ rfl)));simp only [Act.put,sb,sc,sz]);(repeat (refine lexH_quiet rfl ?_;go_big_quiet_step (exact rfl);refine wpQuiet_nil ⟨?hd,?_⟩;(case hd=>exact rfl)));(refine lexH_ghost _ (by rfl) (by rfl) ?hex ?_;(case hex=>(intro px;refine ghost_call (fn:=92) (by go_simp;rfl) ?_;exact add_x _ _ _ _ _ _ h_t3 (px.has 10 (hN 13 10 (by simp)) _ rfl) (C5.out.below (inh_low HL.out px))));simp only [Act.put,sb,sc,sz])
 refine lexH_nil ?_
 intro x9 hb' hh
 have hb:Below v8.heap.size v8 x9:=hb'
 clear hb' HL
 clear qX0a qX0b qX0c qX0d qX0e qX0f qX0g qX0h qX0i qX0j qX0k qX0l qX0m qX0n qX0o qX0p qX0q qX0r qX0s qX0t qX0u qXPa qXPb qXPc qXQa qXQb qXQc qXTa qXTb qXTc
 replace X0:=Kp X0 hb
 replace X1:=Kp X1 hb
 replace XP:=Kp XP hb
 replace XQ:=Kp XQ hb
 replace XT:=Kp XT hb
 replace C0:=Bp C0 hb
 replace C1:=Bp C1 hb
 replace C2:=Bp C2 hb
 replace C3:=Bp C3 hb
 replace C4:=Bp C4 hb
 replace C5:=Bp C5 hb
 replace C6:=Bp C6 hb
 replace Cp:=Bp Cp hb
 replace Cq:=Bp Cq hb
 replace Ca:=Bp Ca hb
 replace HB:=Tp HB hb
 clear hb
 obtain ⟨nb,ob,Ab,lb,kb,e13,hb⟩:=(show BigIs x9 (gg 13) t3 from hh 13 _ (by decide) rfl).lettered
 have Cb:=Lh hb
 rw [e13]
 clear hb e13
 clear hh plX0 plX1 plXP plXQ plXT
 obtain ⟨qXTa,qXTb,qXTc⟩:=cl3 XT
 have rl_XT:=XT.out.lt
 have fz_XT:=XT.out.frozen
 have ft_XT:=XT.out.fits 3 (by simp)
 go_upto_region 6 with fail
 clear qXTa qXTb qXTc rl_XT fz_XT ft_XT
 obtain ⟨v10,hv⟩:∃ v,v=((x9.setCell ⟨gXT,0,none⟩ (.bool nb)).setCell ⟨gXT,1,none⟩ (.bool ob)).setCell ⟨gXT,2,none⟩ (.slice Ab lb kb):=⟨_,rfl⟩
 rw [← hv]
 have ho:OnlyAt (gXT) x9 v10:=by rw [hv];exact OnlyAt.refl.set3 _ _ _
 have hn:=hv
 replace C0:=Lh (C0.out.only ho XT.out (big_no _ _ _ _ _))
 replace C1:=Lh (C1.out.only ho XT.out (big_no _ _ _ _ _))
 replace C2:=Lh (C2.out.only ho XT.out (big_no _ _ _ _ _))
 replace C3:=Lh (C3.out.only ho XT.out (big_no _ _ _ _ _))
 replace C4:=Lh (C4.out.only ho XT.out (big_no _ _ _ _ _))
 replace C5:=Lh (C5.out.only ho XT.out (big_no _ _ _ _ _))
 replace C6:=Lh (C6.out.only ho XT.out (big_no _ _ _ _ _))
 replace Cp:=Lh (Cp.out.only ho XT.out (big_no _ _ _ _ _))
 replace Cq:=Lh (Cq.out.only ho XT.out (big_no _ _ _ _ _))
 replace Ca:=Lh (Ca.out.only ho XT.out (big_no _ _ _ _ _))
 replace Cb:=Lh (Cb.out.only ho XT.out (big_no _ _ _ _ _))
 replace X0:=Lh (ho.blk X0.out (by omega))
 replace X1:=Lh (ho.blk X1.out (by omega))
 replace XP:=Lh (ho.blk XP.out (by omega))
 replace XQ:=Lh (ho.blk XQ.out (by omega))
 replace HB:=Lh (OnlyAt.below ho HB.out (Nat.le_refl _) (by omega))
 replace XT:Hid (Blk v10 (gXT) #[.bool nb,.bool ob,.slice Ab lb kb] 65):=by rw [hv];exact XT.out.set3 _ _ _
 clear ho hn hv
 have hv:=hov.out
 obtain ⟨-,f⟩:=Cb.out.flags
 rw [hv] at f
 subst f
 clear hv
 have qX0s:=X0.out.cell (i:=18) (v := .bool n6) rfl
 have qX0t:=X0.out.cell (i:=19) (v := .bool o6) rfl
 have qX0u:=X0.out.cell (i:=20) (v := .slice A6 l6 k6) rfl
 have rl_X0:=X0.out.lt
 obtain ⟨qXTa,qXTb,qXTc⟩:=cl3 XT
 have rl_XT:=XT.out.lt
 go_wp2_with fail
 clear qX0s qX0t qX0u rl_X0 qXTa qXTb qXTc rl_XT
 refine Calls.mono (cmpB_v hcm Cb.out C6.out) ?_
 rintro e x11 ⟨rfl,hb⟩
 replace X0:=Kp X0 hb
 replace X1:=Kp X1 hb
 replace XP:=Kp XP hb
 replace XQ:=Kp XQ hb
 replace XT:=Kp XT hb
 replace C0:=Bp C0 hb
 replace C1:=Bp C1 hb
 replace C2:=Bp C2 hb
 replace C3:=Bp C3 hb
 replace C4:=Bp C4 hb
 replace C5:=Bp C5 hb
 replace C6:=Bp C6 hb
 replace Cp:=Bp Cp hb
 replace Cq:=Bp Cq hb
 replace Ca:=Bp Ca hb
 replace Cb:=Bp Cb hb
 replace HB:=Tp HB hb
 clear hb
 go_wp2_with fail
 go_ret
 exact ⟨rfl,HB.out⟩
end Go.Proofs.YtilginoibhfeiaaGreat
