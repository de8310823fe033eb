/- Laws. -/
import Derived.Test.YtilginoibhfeiaaGreatY2
import Derived.Test.YtilginoibhfeiaaGreatIB
set_option maxRecDepth 100000
set_option maxHeartbeats 16000000
namespace Go.Proofs.YtilginoibhfeiaaGreat
set_option linter.unusedSimpArgs false
open Go.RowKit
theorem rmix_main (u v:Value) (x0 x1 x2 x3 x4 x5 x6 y0 y1 y2 y3 y4 y5 y6 P Q z0 z1 z2 z3 z4 z5 z6 t:WI) (wt:Int) (w:World) (h0:0≤wt) (h1:wt≤34) (hP:Hid ((WI.of wt).mul y6=P)) (hQ:Hid ((WI.of (34-wt)).mul x6=Q))
  (hz0:Hid ((x0.mul P).add (y0.mul Q)=z0)) (hz1:Hid ((x1.mul P).add (y1.mul Q)=z1)) (hz2:Hid ((x2.mul P).add (y2.mul Q)=z2)) (hz3:Hid ((x3.mul P).add (y3.mul Q)=z3)) (hz4:Hid ((x4.mul P).add (y4.mul Q)=z4)) (hz5:Hid ((x5.mul P).add (y5.mul Q)=z5)) (ht:Hid (x6.mul y6=t)) (hz6:Hid ((WI.of 34).mul t=z6))
  (hi:InfoIs w u x0 x1 x2 x3 x4 x5 x6) (hj:InfoIs w v y0 y1 y2 y3 y4 y5 y6) :
  Calls Tryz.prog 41 #[u,v,.int .i64 wt] w fun e w'=>(∃ v,e = .returned (.tuple #[v,.int .i64 0])∧InfoIs w' v z0 z1 z2 z3 z4 z5 z6)∧Below w.heap.size w w':=by
 obtain ⟨n0,o0,A0,l0,k0,n1,o1,A1,l1,k1,n2,o2,A2,l2,k2,n3,o3,A3,l3,k3,n4,o4,A4,l4,k4,n5,o5,A5,l5,k5,n6,o6,A6,l6,k6,rfl,h0,h1,h2,h3,h4,h5,h6⟩:=hi
 have C0:=Lh h0
 have C1:=Lh h1
 have C2:=Lh h2
 have C3:=Lh h3
 have C4:=Lh h4
 have C5:=Lh h5
 have C6:=Lh h6
 clear h0 h1 h2 h3 h4 h5 h6
 obtain ⟨nj0,oj0,Aj0,lj0,kj0,nj1,oj1,Aj1,lj1,kj1,nj2,oj2,Aj2,lj2,kj2,nj3,oj3,Aj3,lj3,kj3,nj4,oj4,Aj4,lj4,kj4,nj5,oj5,Aj5,lj5,kj5,nj6,oj6,Aj6,lj6,kj6,rfl,hj0,hj1,hj2,hj3,hj4,hj5,hj6⟩:=hj
 have Cj0:=Lh hj0
 have Cj1:=Lh hj1
 have Cj2:=Lh hj2
 have Cj3:=Lh hj3
 have Cj4:=Lh hj4
 have Cj5:=Lh hj5
 have Cj6:=Lh hj6
 clear hj0 hj1 hj2 hj3 hj4 hj5 hj6
 obtain ⟨kw,hk2⟩:∃ z,34-wt=z:=⟨_,rfl⟩
 rw [hk2] at hQ
 have b1:0≤kw∧kw≤34:=by omega
 obtain ⟨b3,b4⟩:=b1
 have wk:IntKind.i64.wrap kw=kw:=by rw [IntKind.wrap_i64];omega
 have K:Hid (I64 wt∧I64 kw∧I64 34):=by unfold Hid I64;omega
 go_enter Tryz.func41,Tryz.ntmps41
 go_wp2_with fail
 obtain ⟨u0,hu0⟩:∃ u,u=(((w).alloc (Obj.cells #[.bool n0,.bool o0,.slice A0 l0 k0,.bool n1,.bool o1,.slice A1 l1 k1,.bool n2,.bool o2,.slice A2 l2 k2,.bool n3,.bool o3,.slice A3 l3 k3,.bool n4,.bool o4,.slice A4 l4 k4,.bool n5,.bool o5,.slice A5 l5 k5,.bool n6,.bool o6,.slice A6 l6 k6] 67)).alloc (Obj.cells #[.bool nj0,.bool oj0,.slice Aj0 lj0 kj0,.bool nj1,.bool oj1,.slice Aj1 lj1 kj1,.bool nj2,.bool oj2,.slice Aj2 lj2 kj2,.bool nj3,.bool oj3,.slice Aj3 lj3 kj3,.bool nj4,.bool oj4,.slice Aj4 lj4 kj4,.bool nj5,.bool oj5,.slice Aj5 lj5 kj5,.bool nj6,.bool oj6,.slice Aj6 lj6 kj6] 67)).alloc (Obj.cells #[.bool false,.bool false,.slice none 0 0,.bool false,.bool false,.slice none 0 0,.bool false,.bool false,.slice none 0 0,.bool false,.bool false,.slice none 0 0,.bool false,.bool false,.slice none 0 0,.bool false,.bool false,.slice none 0 0,.bool false,.bool false,.slice none 0 0] 67):=⟨_,rfl⟩
 rw [← hu0]
 have HB:Hid (Below w.heap.size w u0):=by rw [hu0];show Below w.heap.size w _;exact below_byR
 have X0:Hid (Blk u0 (w.heap.size) #[.bool n0,.bool o0,.slice A0 l0 k0,.bool n1,.bool o1,.slice A1 l1 k1,.bool n2,.bool o2,.slice A2 l2 k2,.bool n3,.bool o3,.slice A3 l3 k3,.bool n4,.bool o4,.slice A4 l4 k4,.bool n5,.bool o5,.slice A5 l5 k5,.bool n6,.bool o6,.slice A6 l6 k6] 67):=by rw [hu0];exact ((Blk.new' _ _ _ (by simp)).alloc _).alloc _
 have X1:Hid (Blk u0 (w.heap.size+1) #[.bool nj0,.bool oj0,.slice Aj0 lj0 kj0,.bool nj1,.bool oj1,.slice Aj1 lj1 kj1,.bool nj2,.bool oj2,.slice Aj2 lj2 kj2,.bool nj3,.bool oj3,.slice Aj3 lj3 kj3,.bool nj4,.bool oj4,.slice Aj4 lj4 kj4,.bool nj5,.bool oj5,.slice Aj5 lj5 kj5,.bool nj6,.bool oj6,.slice Aj6 lj6 kj6] 67):=by rw [hu0];exact (Blk.new' _ _ _ (by simp)).alloc _
 have X2:Hid (Blk u0 (w.heap.size+1+1) #[.bool false,.bool false,.slice none 0 0,.bool false,.bool false,.slice none 0 0,.bool false,.bool false,.slice none 0 0,.bool false,.bool false,.slice none 0 0,.bool false,.bool false,.slice none 0 0,.bool false,.bool false,.slice none 0 0,.bool false,.bool false,.slice none 0 0] 67):=by rw [hu0];exact Blk.new' _ _ _ (by simp)
 replace C0:=Lh (C0.out.below (show Below w.heap.size w u0 from HB.out))
 replace C1:=Lh (C1.out.below (show Below w.heap.size w u0 from HB.out))
 replace C2:=Lh (C2.out.below (show Below w.heap.size w u0 from HB.out))
 replace C3:=Lh (C3.out.below (show Below w.heap.size w u0 from HB.out))
 replace C4:=Lh (C4.out.below (show Below w.heap.size w u0 from HB.out))
 replace C5:=Lh (C5.out.below (show Below w.heap.size w u0 from HB.out))
 replace C6:=Lh (C6.out.below (show Below w.heap.size w u0 from HB.out))
 replace Cj0:=Lh (Cj0.out.below (show Below w.heap.size w u0 from HB.out))
 replace Cj1:=Lh (Cj1.out.below (show Below w.heap.size w u0 from HB.out))
 replace Cj2:=Lh (Cj2.out.below (show Below w.heap.size w u0 from HB.out))
 replace Cj3:=Lh (Cj3.out.below (show Below w.heap.size w u0 from HB.out))
 replace Cj4:=Lh (Cj4.out.below (show Below w.heap.size w u0 from HB.out))
 replace Cj5:=Lh (Cj5.out.below (show Below w.heap.size w u0 from HB.out))
 replace Cj6:=Lh (Cj6.out.below (show Below w.heap.size w u0 from HB.out))
 clear hu0
 have plX0:=X0.out.lt
 have plX1:=X1.out.lt
 have plX2:=X2.out.lt
 obtain ⟨qX0a,qX0b,qX0c,qX0d,qX0e,qX0f,qX0g,qX0h,qX0i,qX0j,qX0k,qX0l,qX0m,qX0n,qX0o,qX0p,qX0q,qX0r,qX0s,qX0t,qX0u⟩:=ic21 X0
 obtain ⟨qX1a,qX1b,qX1c,qX1d,qX1e,qX1f,qX1g,qX1h,qX1i,qX1j,qX1k,qX1l,qX1m,qX1n,qX1o,qX1p,qX1q,qX1r,qX1s,qX1t,qX1u⟩:=ic21 X1
 have HL:Hid (Below u0.heap.size u0 u0.drew):=(Below.refl _ _).drew
 refine wp_region_ghostD' 13 (fun k=>match k with|1=>some (gBig (WI.of wt))|4=>some (gBig P)|7=>some (gBig (WI.of kw))|10=>some (gBig Q)|11=>some (gCell u0.heap.size #[.bool false,.bool false,.slice none 0 0] 65)|12=>some (gCell u0.heap.size #[.bool false,.bool false,.slice none 0 0] 65)|_=>none) (fun k=>match k with|4=>[1]|10=>[7]|_=>[]) (by kernel_rfl) (by kernel_rfl) ?_;apply Ea;apply Eu;apply Ea;apply Ea;apply Eu;apply Ea;apply Ea;apply Eu;apply Ea;apply Ea;apply Eu;apply Eu;apply Eu;refine ⟨[],fun gg NN hN=>?_⟩;simp only [List.append_eq,List.cons_append,List.nil_append,List.take_succ_cons,List.take_zero,List.drop_succ_cons,List.drop_zero];(refine lexH_quiet rfl ?_;go_big_quiet_step (exact rfl);refine wpQuiet_nil ⟨?hd,?_⟩;(case hd=>exact rfl));(refine lexH_ghost _ (by rfl) (by rfl) ?hex ?_;(case hex=>(intro px;refine ghost_call (fn:=88) (by go_simp;rfl) ?_;exact rbig_r _ K.out.1.1 K.out.1.2 _));simp only [Act.put,sb,sc,sz]);(repeat (refine lexH_quiet rfl ?_;go_big_quiet_step (exact rfl);refine wpQuiet_nil ⟨?hd,?_⟩;(case hd=>exact rfl)));(refine lexH_ghost _ (by rfl) (by rfl) ?hex ?_;(case hex=>(intro px;refine ghost_call (fn:=93) (by go_simp;rfl) ?_;exact mul_x _ _ _ _ _ _ hP (px.has 1 (hN 4 1 (by simp)) _ rfl) (Cj6.out.below (inh_low HL.out px))));simp only [Act.put,sb,sc,sz]);(repeat (refine lexH_quiet rfl ?_;go_big_quiet_step (exact rfl);refine wpQuiet_nil ⟨?hd,?_⟩;(case hd=>exact rfl)));(refine lexH_ghost _ (by rfl) (by rfl) ?hex ?_;(case hex=>(intro px;refine ghost_call (fn:=88) (by go_simp;rfl) ?_;exact rbig_r _ K.out.2.1.1 K.out.2.1.2 _));simp only [Act.put,sb,sc,sz]);(repeat (refine lexH_quiet rfl ?_;go_big_quiet_step (exact rfl);refine wpQuiet_nil ⟨?hd,?_⟩;(case hd=>exact rfl)));(refine lexH_ghost _ (by rfl) (by rfl) ?hex ?_;(case hex=>(intro px;refine ghost_call (fn:=93) (by go_simp;rfl) ?_;exact mul_x _ _ _ _ _ _ hQ (px.has 7 (hN 10 7 (by simp)) _ rfl) (C6.out.below (inh_low HL.out px))));simp only [Act.put,sb,sc,sz]);(refine lexH_ghost _ (by rfl) (by rfl) ?hex ?_;(case hex=>(intro px;exact ghost_alloc (by have:=px.low.size;simp at this;omega) (by first|(go_simp;done)|(go_simp;rfl))));simp only [Act.put,sb,sc,sz]);(refine lexH_ghost _ (by rfl) (by rfl) ?hex ?_;(case hex=>(intro px;exact ghost_alloc (by have:=px.low.size;simp at this;omega) (by first|(go_simp;done)|(go_simp;rfl))));simp only [Act.put,sb,sc,sz])
 refine lexH_nil ?_
 intro x1 hb' hh hd
 have hb:Below u0.heap.size u0 x1:=hb'
 clear hb' HL
 clear qX0a qX0b qX0c qX0d qX0e qX0f qX0g qX0h qX0i qX0j qX0k qX0l qX0m qX0n qX0o qX0p qX0q qX0r qX0s qX0t qX0u qX1a qX1b qX1c qX1d qX1e qX1f qX1g qX1h qX1i qX1j qX1k qX1l qX1m qX1n qX1o qX1p qX1q qX1r qX1s qX1t qX1u
 replace X0:=Kp X0 hb
 replace X1:=Kp X1 hb
 replace X2:=Kp X2 hb
 replace C0:=Bp C0 hb
 replace C1:=Bp C1 hb
 replace C2:=Bp C2 hb
 replace C3:=Bp C3 hb
 replace C4:=Bp C4 hb
 replace C5:=Bp C5 hb
 replace C6:=Bp C6 hb
 replace Cj0:=Bp Cj0 hb
 replace Cj1:=Bp Cj1 hb
 replace Cj2:=Bp Cj2 hb
 replace Cj3:=Bp Cj3 hb
 replace Cj4:=Bp Cj4 hb
 replace Cj5:=Bp Cj5 hb
 replace Cj6:=Bp Cj6 hb
 replace HB:=Tp HB hb
 clear hb
 obtain ⟨np,op,Ap,lp,kp,e4,hp⟩:=(show BigIs x1 (gg 4) P from hh 4 _ (by decide) rfl).lettered
 have Cp:=Lh hp
 rw [e4]
 clear hp e4
 obtain ⟨nq,oq,Aq,lq,kq,e10,hq⟩:=(show BigIs x1 (gg 10) Q from hh 10 _ (by decide) rfl).lettered
 have Cq:=Lh hq
 rw [e10]
 clear hq e10
 obtain ⟨gX3,e11,l11,b11⟩:=hh 11 _ (by decide) rfl
 rw [e11]
 obtain ⟨gX4,e12,l12,b12⟩:=hh 12 _ (by decide) rfl
 rw [e12]
 have ne_X3_X4:gX3≠gX4:=hd 11 12 _ _ gX3 gX4 (by decide) (by decide) rfl rfl (by decide) (by rw [e11];rfl) (by rw [e12];rfl)
 have lt_X0_X3:w.heap.size<gX3:=by omega
 have lt_X1_X3:w.heap.size+1<gX3:=by omega
 have lt_X2_X3:w.heap.size+1+1<gX3:=by omega
 have gw_X3:w.heap.size≤gX3:=by omega
 have X3:Hid (Blk x1 gX3 #[.bool false,.bool false,.slice none 0 0] 65):=b11
 clear b11 e11
 have lt_X0_X4:w.heap.size<gX4:=by omega
 have lt_X1_X4:w.heap.size+1<gX4:=by omega
 have lt_X2_X4:w.heap.size+1+1<gX4:=by omega
 have gw_X4:w.heap.size≤gX4:=by omega
 have X4:Hid (Blk x1 gX4 #[.bool false,.bool false,.slice none 0 0] 65):=b12
 clear b12 e12
 clear hh hd plX0 plX1 plX2
 obtain ⟨qX3a,qX3b,qX3c⟩:=cl3 X3
 have rl_X3:=X3.out.lt
 obtain ⟨qX4a,qX4b,qX4c⟩:=cl3 X4
 have rl_X4:=X4.out.lt
 have fz_X3:=X3.out.frozen
 have ft_X3:=X3.out.fits 3 (by simp)
 have fz_X4:=X4.out.frozen
 have ft_X4:=X4.out.fits 3 (by simp)
 have ne_s:=ne_X3_X4.symm
 go_wp2_with fail
 clear qX3a qX3b qX3c rl_X3 qX4a qX4b qX4c rl_X4 fz_X3 ft_X3 fz_X4 ft_X4
 obtain ⟨v2,hv⟩:∃ v,v=((x1.setCell ⟨gX3,0,none⟩ (.bool np)).setCell ⟨gX3,1,none⟩ (.bool op)).setCell ⟨gX3,2,none⟩ (.slice Ap lp kp):=⟨_,rfl⟩
 rw [← hv]
 have ho:OnlyAt (gX3) x1 v2:=by rw [hv];exact OnlyAt.refl.set3 _ _ _
 have hn:=hv
 replace C0:=Lh (C0.out.only ho X3.out (big_no _ _ _ _ _))
 replace C1:=Lh (C1.out.only ho X3.out (big_no _ _ _ _ _))
 replace C2:=Lh (C2.out.only ho X3.out (big_no _ _ _ _ _))
 replace C3:=Lh (C3.out.only ho X3.out (big_no _ _ _ _ _))
 replace C4:=Lh (C4.out.only ho X3.out (big_no _ _ _ _ _))
 replace C5:=Lh (C5.out.only ho X3.out (big_no _ _ _ _ _))
 replace C6:=Lh (C6.out.only ho X3.out (big_no _ _ _ _ _))
 replace Cj0:=Lh (Cj0.out.only ho X3.out (big_no _ _ _ _ _))
 replace Cj1:=Lh (Cj1.out.only ho X3.out (big_no _ _ _ _ _))
 replace Cj2:=Lh (Cj2.out.only ho X3.out (big_no _ _ _ _ _))
 replace Cj3:=Lh (Cj3.out.only ho X3.out (big_no _ _ _ _ _))
 replace Cj4:=Lh (Cj4.out.only ho X3.out (big_no _ _ _ _ _))
 replace Cj5:=Lh (Cj5.out.only ho X3.out (big_no _ _ _ _ _))
 replace Cj6:=Lh (Cj6.out.only ho X3.out (big_no _ _ _ _ _))
 replace Cp:=Lh (Cp.out.only ho X3.out (big_no _ _ _ _ _))
 replace Cq:=Lh (Cq.out.only ho X3.out (big_no _ _ _ _ _))
 replace X0:=Lh (ho.blk X0.out (by omega))
 replace X1:=Lh (ho.blk X1.out (by omega))
 replace X2:=Lh (ho.blk X2.out (by omega))
 replace X4:=Lh (ho.blk X4.out (by omega))
 replace HB:=Lh (OnlyAt.below ho HB.out (Nat.le_refl _) (by omega))
 replace X3:Hid (Blk v2 (gX3) #[.bool np,.bool op,.slice Ap lp kp] 65):=by rw [hv];exact X3.out.set3 _ _ _
 clear ho hn hv
 obtain ⟨v3,hv⟩:∃ v,v=((v2.setCell ⟨gX4,0,none⟩ (.bool nq)).setCell ⟨gX4,1,none⟩ (.bool oq)).setCell ⟨gX4,2,none⟩ (.slice Aq lq kq):=⟨_,rfl⟩
 rw [← hv]
 have ho:OnlyAt (gX4) v2 v3:=by rw [hv];exact OnlyAt.refl.set3 _ _ _
 have hn:=hv
 replace C0:=Lh (C0.out.only ho X4.out (big_no _ _ _ _ _))
 replace C1:=Lh (C1.out.only ho X4.out (big_no _ _ _ _ _))
 replace C2:=Lh (C2.out.only ho X4.out (big_no _ _ _ _ _))
 replace C3:=Lh (C3.out.only ho X4.out (big_no _ _ _ _ _))
 replace C4:=Lh (C4.out.only ho X4.out (big_no _ _ _ _ _))
 replace C5:=Lh (C5.out.only ho X4.out (big_no _ _ _ _ _))
 replace C6:=Lh (C6.out.only ho X4.out (big_no _ _ _ _ _))
 replace Cj0:=Lh (Cj0.out.only ho X4.out (big_no _ _ _ _ _))
 replace Cj1:=Lh (Cj1.out.only ho X4.out (big_no _ _ _ _ _))
 replace Cj2:=Lh (Cj2.out.only ho X4.out (big_no _ _ _ _ _))
 replace Cj3:=Lh (Cj3.out.only ho X4.out (big_no _ _ _ _ _))
 replace Cj4:=Lh (Cj4.out.only ho X4.out (big_no _ _ _ _ _))
 replace Cj5:=Lh (Cj5.out.only ho X4.out (big_no _ _ _ _ _))
 replace Cj6:=Lh (Cj6.out.only ho X4.out (big_no _ _ _ _ _))
 replace Cp:=Lh (Cp.out.only ho X4.out (big_no _ _ _ _ _))
 replace Cq:=Lh (Cq.out.only ho X4.out (big_no _ _ _ _ _))
 replace X0:=Lh (ho.blk X0.out (by omega))
 replace X1:=Lh (ho.blk X1.out (by omega))
 replace X2:=Lh (ho.blk X2.out (by omega))
 replace X3:=Lh (ho.blk X3.out (by omega))
 replace HB:=Lh (OnlyAt.below ho HB.out (Nat.le_refl _) (by omega))
 replace X4:Hid (Blk v3 (gX4) #[.bool nq,.bool oq,.slice Aq lq kq] 65):=by rw [hv];exact X4.out.set3 _ _ _
 clear ho hn hv
 obtain ⟨qX0a,qX0b,qX0c,qX0d,qX0e,qX0f,qX0g,qX0h,qX0i,qX0j,qX0k,qX0l,qX0m,qX0n,qX0o,qX0p,qX0q,qX0r,qX0s,qX0t,qX0u⟩:=ic21 X0
 obtain ⟨qX1a,qX1b,qX1c,qX1d,qX1e,qX1f,qX1g,qX1h,qX1i,qX1j,qX1k,qX1l,qX1m,qX1n,qX1o,qX1p,qX1q,qX1r,qX1s,qX1t,qX1u⟩:=ic21 X1
 obtain ⟨qX3a,qX3b,qX3c⟩:=ic3 X3
 obtain ⟨qX4a,qX4b,qX4c⟩:=ic3 X4
 have HL:Hid (Below v3.heap.size v3 v3.drew):=(Below.refl _ _).drew
 refine wp_region_ghost' 49 (fun k=>match k with|6=>some (gBig z0)|13=>some (gBig z1)|20=>some (gBig z2)|27=>some (gBig z3)|34=>some (gBig z4)|41=>some (gBig z5)|42=>some (gBig (WI.of 34))|47=>some (gBig t)|48=>some (gBig z6)|_=>none) (fun k=>match k with|48=>[42,47]|_=>[]) (by kernel_rfl) (by kernel_rfl) ?_;apply Ea;apply Ea;apply Ea;apply Ea;apply Ea;apply Ea;apply Eu;apply Ea;apply Ea;apply Ea;apply Ea;apply Ea;apply Ea;apply Eu;apply Ea;apply Ea;apply Ea;apply Ea;apply Ea;apply Ea;apply Eu;apply Ea;apply Ea;apply Ea;apply Ea;apply Ea;apply Ea;apply Eu;apply Ea;apply Ea;apply Ea;apply Ea;apply Ea;apply Ea;apply Eu;apply Ea;apply Ea;apply Ea;apply Ea;apply Ea;apply Ea;apply Eu;apply Eu;apply Ea;apply Ea;apply Ea;apply Ea;apply Eu;apply Eu;refine ⟨[],fun gg NN hN=>?_⟩;simp only [List.append_eq,List.cons_append,List.nil_append,List.take_succ_cons,List.take_zero,List.drop_succ_cons,List.drop_zero];(repeat (refine lexH_quiet rfl ?_;go_big_quiet_step (exact rfl);refine wpQuiet_nil ⟨?hd,?_⟩;(case hd=>exact rfl)));(refine lexH_ghost _ (by rfl) (by rfl) ?hex ?_;(case hex=>(intro px;refine ghost_call (fn:=89) (by go_simp;rfl) ?_;exact rdot_x _ _ _ _ _ _ _ _ _ _ hz0 (C0.out.below (inh_low HL.out px)) (Cp.out.below (inh_low HL.out px)) (Cj0.out.below (inh_low HL.out px)) (Cq.out.below (inh_low HL.out px))));simp only [Act.put,sb,sc,sz]);(repeat (refine lexH_quiet rfl ?_;go_big_quiet_step (exact rfl);refine wpQuiet_nil ⟨?hd,?_⟩;(case hd=>exact rfl)));(refine lexH_ghost _ (by rfl) (by rfl) ?hex ?_;(case hex=>(intro px;refine ghost_call (fn:=89) (by go_simp;rfl) ?_;exact rdot_x _ _ _ _ _ _ _ _ _ _ hz1 (C1.out.below (inh_low HL.out px)) (Cp.out.below (inh_low HL.out px)) (Cj1.out.below (inh_low HL.out px)) (Cq.out.below (inh_low HL.out px))));simp only [Act.put,sb,sc,sz]);(repeat (refine lexH_quiet rfl ?_;go_big_quiet_step (exact rfl);refine wpQuiet_nil ⟨?hd,?_⟩;(case hd=>exact rfl)));(refine lexH_ghost _ (by rfl) (by rfl) ?hex ?_;(case hex=>(intro px;refine ghost_call (fn:=89) (by go_simp;rfl) ?_;exact rdot_x _ _ _ _ _ _ _ _ _ _ hz2 (C2.out.below (inh_low HL.out px)) (Cp.out.below (inh_low HL.out px)) (Cj2.out.below (inh_low HL.out px)) (Cq.out.below (inh_low HL.out px))));simp only [Act.put,sb,sc,sz]);(repeat (refine lexH_quiet rfl ?_;go_big_quiet_step (exact rfl);refine wpQuiet_nil ⟨?hd,?_⟩;(case hd=>exact rfl)));(refine lexH_ghost _ (by rfl) (by rfl) ?hex ?_;(case hex=>(intro px;refine ghost_call (fn:=89) (by go_simp;rfl) ?_;exact rdot_x _ _ _ _ _ _ _ _ _ _ hz3 (C3.out.below (inh_low HL.out px)) (Cp.out.below (inh_low HL.out px)) (Cj3.out.below (inh_low HL.out px)) (Cq.out.below (inh_low HL.out px))));simp only [Act.put,sb,sc,sz]);(repeat (refine lexH_quiet rfl ?_;go_big_quiet_step (exact rfl);refine wpQuiet_nil ⟨?hd,?_⟩;(case hd=>exact rfl)));(refine lexH_ghost _ (by rfl) (by rfl) ?hex ?_;(case hex=>(intro px;refine ghost_call (fn:=89) (by go_simp;rfl) ?_;exact rdot_x _ _ _ _ _ _ _ _ _ _ hz4 (C4.out.below (inh_low HL.out px)) (Cp.out.below (inh_low HL.out px)) (Cj4.out.below (inh_low HL.out px)) (Cq.out.below (inh_low HL.out px))));simp only [Act.put,sb,sc,sz]);(repeat (refine lexH_quiet rfl ?_;go_big_quiet_step (exact rfl);refine wpQuiet_nil ⟨?hd,?_⟩;(case hd=>exact rfl)));(refine lexH_ghost _ (by rfl) (by rfl) ?hex ?_;(case hex=>(intro px;refine ghost_call (fn:=89) (by go_simp;rfl) ?_;exact rdot_x _ _ _ _ _ _ _ _ _ _ hz5 (C5.out.below (inh_low HL.out px)) (Cp.out.below (inh_low HL.out px)) (Cj5.out.below (inh_low HL.out px)) (Cq.out.below (inh_low HL.out px))));simp only [Act.put,sb,sc,sz]);(refine lexH_ghost _ (by rfl) (by rfl) ?hex ?_;(case hex=>(intro px;refine ghost_call (fn:=88) (by go_simp;rfl) ?_;exact rbig_r _ K.out.2.2.1 K.out.2.2.2 _));simp only [Act.put,sb,sc,sz]);(repeat (refine lexH_quiet rfl ?_;go_big_quiet_step (exact rfl);refine wpQuiet_nil ⟨?hd,?_⟩;(case hd=>exact rfl)));(refine lexH_ghost _ (by rfl) (by rfl) ?hex ?_;(case hex=>(intro px;refine ghost_call (fn:=93) (by go_simp;rfl) ?_;exact mul_x _ _ _ _ _ _ ht (C6.out.below (inh_low HL.out px)) (Cj6.out.below (inh_low HL.out px))));simp only [Act.put,sb,sc,sz]);(refine lexH_ghost _ (by rfl) (by rfl) ?hex ?_;(case hex=>(intro px;refine ghost_call (fn:=93) (by go_simp;rfl) ?_;exact mul_x _ _ _ _ _ _ hz6 (px.has 42 (hN 48 42 (by simp)) _ rfl) (px.has 47 (hN 48 47 (by simp)) _ rfl)));simp only [Act.put,sb,sc,sz])
 refine lexH_nil ?_
 intro x4 hb' hh
 have hb:Below v3.heap.size v3 x4:=hb'
 clear hb' HL
 clear qX0a qX0b qX0c qX0d qX0e qX0f qX0g qX0h qX0i qX0j qX0k qX0l qX0m qX0n qX0o qX0p qX0q qX0r qX0s qX0t qX0u qX1a qX1b qX1c qX1d qX1e qX1f qX1g qX1h qX1i qX1j qX1k qX1l qX1m qX1n qX1o qX1p qX1q qX1r qX1s qX1t qX1u qX3a qX3b qX3c qX4a qX4b qX4c
 replace X0:=Kp X0 hb
 replace X1:=Kp X1 hb
 replace X2:=Kp X2 hb
 replace X3:=Kp X3 hb
 replace X4:=Kp X4 hb
 replace C0:=Bp C0 hb
 replace C1:=Bp C1 hb
 replace C2:=Bp C2 hb
 replace C3:=Bp C3 hb
 replace C4:=Bp C4 hb
 replace C5:=Bp C5 hb
 replace C6:=Bp C6 hb
 replace Cj0:=Bp Cj0 hb
 replace Cj1:=Bp Cj1 hb
 replace Cj2:=Bp Cj2 hb
 replace Cj3:=Bp Cj3 hb
 replace Cj4:=Bp Cj4 hb
 replace Cj5:=Bp Cj5 hb
 replace Cj6:=Bp Cj6 hb
 replace Cp:=Bp Cp hb
 replace Cq:=Bp Cq hb
 replace HB:=Tp HB hb
 clear hb
 obtain ⟨nr0,or0,Ar0,lr0,kr0,e6,hr0⟩:=(show BigIs x4 (gg 6) z0 from hh 6 _ (by decide) rfl).lettered
 have Cr0:=Lh hr0
 rw [e6]
 clear hr0 e6
 obtain ⟨nr1,or1,Ar1,lr1,kr1,e13,hr1⟩:=(show BigIs x4 (gg 13) z1 from hh 13 _ (by decide) rfl).lettered
 have Cr1:=Lh hr1
 rw [e13]
 clear hr1 e13
 obtain ⟨nr2,or2,Ar2,lr2,kr2,e20,hr2⟩:=(show BigIs x4 (gg 20) z2 from hh 20 _ (by decide) rfl).lettered
 have Cr2:=Lh hr2
 rw [e20]
 clear hr2 e20
 obtain ⟨nr3,or3,Ar3,lr3,kr3,e27,hr3⟩:=(show BigIs x4 (gg 27) z3 from hh 27 _ (by decide) rfl).lettered
 have Cr3:=Lh hr3
 rw [e27]
 clear hr3 e27
 obtain ⟨nr4,or4,Ar4,lr4,kr4,e34,hr4⟩:=(show BigIs x4 (gg 34) z4 from hh 34 _ (by decide) rfl).lettered
 have Cr4:=Lh hr4
 rw [e34]
 clear hr4 e34
 obtain ⟨nr5,or5,Ar5,lr5,kr5,e41,hr5⟩:=(show BigIs x4 (gg 41) z5 from hh 41 _ (by decide) rfl).lettered
 have Cr5:=Lh hr5
 rw [e41]
 clear hr5 e41
 obtain ⟨nr6,or6,Ar6,lr6,kr6,e48,hr6⟩:=(show BigIs x4 (gg 48) z6 from hh 48 _ (by decide) rfl).lettered
 have Cr6:=Lh hr6
 rw [e48]
 clear hr6 e48
 clear hh
 obtain ⟨qX2a,qX2b,qX2c,qX2d,qX2e,qX2f,qX2g,qX2h,qX2i,qX2j,qX2k,qX2l,qX2m,qX2n,qX2o,qX2p,qX2q,qX2r,qX2s,qX2t,qX2u⟩:=cl21 X2
 have rl_X2:=X2.out.lt
 have fz_X2:=X2.out.frozen
 have ft_X2:=X2.out.fits 21 (by simp)
 obtain ⟨IC,hIC⟩:∃ c:Array Value,#[.bool nr0,.bool or0,.slice Ar0 lr0 kr0,.bool nr1,.bool or1,.slice Ar1 lr1 kr1,.bool nr2,.bool or2,.slice Ar2 lr2 kr2,.bool nr3,.bool or3,.slice Ar3 lr3 kr3,.bool nr4,.bool or4,.slice Ar4 lr4 kr4,.bool nr5,.bool or5,.slice Ar5 lr5 kr5,.bool nr6,.bool or6,.slice Ar6 lr6 kr6]=c:=⟨_,rfl⟩
 have hbl:∀ w,bldI Tryz.prog 67 #[(0,(.agg #[.bool nr0,.bool or0,.slice Ar0 lr0 kr0])),(1,(.agg #[.bool nr1,.bool or1,.slice Ar1 lr1 kr1])),(2,(.agg #[.bool nr2,.bool or2,.slice Ar2 lr2 kr2])),(3,(.agg #[.bool nr3,.bool or3,.slice Ar3 lr3 kr3])),(4,(.agg #[.bool nr4,.bool or4,.slice Ar4 lr4 kr4])),(5,(.agg #[.bool nr5,.bool or5,.slice Ar5 lr5 kr5])),(6,(.agg #[.bool nr6,.bool or6,.slice Ar6 lr6 kr6]))] w = .ok (.agg IC) w:=fun w=>by rw [← hIC];exact bldI7_run _ _ _ _ _ _ _ _ _ _ _ _ _ _ _ _ _ _ _ _ _ _ _ _ _ _ _ _ _ _ _ _ _ _ _ w
 have s21:IC.size=21:=by rw [← hIC];rfl
 have o21:ones IC=true:=by rw [← hIC];simp [ones,Value.oneCell']
 have pt:=X2.out.put? 0 IC (by rw [s21];exact Nat.le_refl _) o21
 have HIC:Hid (#[.bool nr0,.bool or0,.slice Ar0 lr0 kr0,.bool nr1,.bool or1,.slice Ar1 lr1 kr1,.bool nr2,.bool or2,.slice Ar2 lr2 kr2,.bool nr3,.bool or3,.slice Ar3 lr3 kr3,.bool nr4,.bool or4,.slice Ar4 lr4 kr4,.bool nr5,.bool or5,.slice Ar5 lr5 kr5,.bool nr6,.bool or6,.slice Ar6 lr6 kr6]=IC):=hIC
 clear hIC
 go_wp2_with fail
 clear qX2a qX2b qX2c qX2d qX2e qX2f qX2g qX2h qX2i qX2j qX2k qX2l qX2m qX2n qX2o qX2p qX2q qX2r qX2s qX2t qX2u rl_X2 fz_X2 ft_X2 pt hbl o21
 obtain ⟨v5,hv⟩:∃ v,v=x4.putRow (w.heap.size+1+1) 0 IC:=⟨_,rfl⟩
 rw [← hv]
 have ho:OnlyAt (w.heap.size+1+1) x4 v5:=by rw [hv];exact OnlyAt.refl.putRow 0 IC
 have hn:=hv
 replace C0:=Lh (C0.out.only ho X2.out (info_no _ _ _ _ _ _ _ _ _ _ _ _ _ _ _ _ _ _ _ _ _ _ _ _ _ _ _ _ _ _ _ _ _ _ _))
 replace C1:=Lh (C1.out.only ho X2.out (info_no _ _ _ _ _ _ _ _ _ _ _ _ _ _ _ _ _ _ _ _ _ _ _ _ _ _ _ _ _ _ _ _ _ _ _))
 replace C2:=Lh (C2.out.only ho X2.out (info_no _ _ _ _ _ _ _ _ _ _ _ _ _ _ _ _ _ _ _ _ _ _ _ _ _ _ _ _ _ _ _ _ _ _ _))
 replace C3:=Lh (C3.out.only ho X2.out (info_no _ _ _ _ _ _ _ _ _ _ _ _ _ _ _ _ _ _ _ _ _ _ _ _ _ _ _ _ _ _ _ _ _ _ _))
 replace C4:=Lh (C4.out.only ho X2.out (info_no _ _ _ _ _ _ _ _ _ _ _ _ _ _ _ _ _ _ _ _ _ _ _ _ _ _ _ _ _ _ _ _ _ _ _))
 replace C5:=Lh (C5.out.only ho X2.out (info_no _ _ _ _ _ _ _ _ _ _ _ _ _ _ _ _ _ _ _ _ _ _ _ _ _ _ _ _ _ _ _ _ _ _ _))
 replace C6:=Lh (C6.out.only ho X2.out (info_no _ _ _ _ _ _ _ _ _ _ _ _ _ _ _ _ _ _ _ _ _ _ _ _ _ _ _ _ _ _ _ _ _ _ _))
 replace Cj0:=Lh (Cj0.out.only ho X2.out (info_no _ _ _ _ _ _ _ _ _ _ _ _ _ _ _ _ _ _ _ _ _ _ _ _ _ _ _ _ _ _ _ _ _ _ _))
 replace Cj1:=Lh (Cj1.out.only ho X2.out (info_no _ _ _ _ _ _ _ _ _ _ _ _ _ _ _ _ _ _ _ _ _ _ _ _ _ _ _ _ _ _ _ _ _ _ _))
 replace Cj2:=Lh (Cj2.out.only ho X2.out (info_no _ _ _ _ _ _ _ _ _ _ _ _ _ _ _ _ _ _ _ _ _ _ _ _ _ _ _ _ _ _ _ _ _ _ _))
 replace Cj3:=Lh (Cj3.out.only ho X2.out (info_no _ _ _ _ _ _ _ _ _ _ _ _ _ _ _ _ _ _ _ _ _ _ _ _ _ _ _ _ _ _ _ _ _ _ _))
 replace Cj4:=Lh (Cj4.out.only ho X2.out (info_no _ _ _ _ _ _ _ _ _ _ _ _ _ _ _ _ _ _ _ _ _ _ _ _ _ _ _ _ _ _ _ _ _ _ _))
 replace Cj5:=Lh (Cj5.out.only ho X2.out (info_no _ _ _ _ _ _ _ _ _ _ _ _ _ _ _ _ _ _ _ _ _ _ _ _ _ _ _ _ _ _ _ _ _ _ _))
 replace Cj6:=Lh (Cj6.out.only ho X2.out (info_no _ _ _ _ _ _ _ _ _ _ _ _ _ _ _ _ _ _ _ _ _ _ _ _ _ _ _ _ _ _ _ _ _ _ _))
 replace Cp:=Lh (Cp.out.only ho X2.out (info_no _ _ _ _ _ _ _ _ _ _ _ _ _ _ _ _ _ _ _ _ _ _ _ _ _ _ _ _ _ _ _ _ _ _ _))
 replace Cq:=Lh (Cq.out.only ho X2.out (info_no _ _ _ _ _ _ _ _ _ _ _ _ _ _ _ _ _ _ _ _ _ _ _ _ _ _ _ _ _ _ _ _ _ _ _))
 replace Cr0:=Lh (Cr0.out.only ho X2.out (info_no _ _ _ _ _ _ _ _ _ _ _ _ _ _ _ _ _ _ _ _ _ _ _ _ _ _ _ _ _ _ _ _ _ _ _))
 replace Cr1:=Lh (Cr1.out.only ho X2.out (info_no _ _ _ _ _ _ _ _ _ _ _ _ _ _ _ _ _ _ _ _ _ _ _ _ _ _ _ _ _ _ _ _ _ _ _))
 replace Cr2:=Lh (Cr2.out.only ho X2.out (info_no _ _ _ _ _ _ _ _ _ _ _ _ _ _ _ _ _ _ _ _ _ _ _ _ _ _ _ _ _ _ _ _ _ _ _))
 replace Cr3:=Lh (Cr3.out.only ho X2.out (info_no _ _ _ _ _ _ _ _ _ _ _ _ _ _ _ _ _ _ _ _ _ _ _ _ _ _ _ _ _ _ _ _ _ _ _))
 replace Cr4:=Lh (Cr4.out.only ho X2.out (info_no _ _ _ _ _ _ _ _ _ _ _ _ _ _ _ _ _ _ _ _ _ _ _ _ _ _ _ _ _ _ _ _ _ _ _))
 replace Cr5:=Lh (Cr5.out.only ho X2.out (info_no _ _ _ _ _ _ _ _ _ _ _ _ _ _ _ _ _ _ _ _ _ _ _ _ _ _ _ _ _ _ _ _ _ _ _))
 replace Cr6:=Lh (Cr6.out.only ho X2.out (info_no _ _ _ _ _ _ _ _ _ _ _ _ _ _ _ _ _ _ _ _ _ _ _ _ _ _ _ _ _ _ _ _ _ _ _))
 replace X0:=Lh (ho.blk X0.out (by omega))
 replace X1:=Lh (ho.blk X1.out (by omega))
 replace X3:=Lh (ho.blk X3.out (by omega))
 replace X4:=Lh (ho.blk X4.out (by omega))
 replace HB:=Lh (OnlyAt.below ho HB.out (Nat.le_refl _) (by omega))
 replace X2:Hid (Blk v5 (w.heap.size+1+1) #[.bool nr0,.bool or0,.slice Ar0 lr0 kr0,.bool nr1,.bool or1,.slice Ar1 lr1 kr1,.bool nr2,.bool or2,.slice Ar2 lr2 kr2,.bool nr3,.bool or3,.slice Ar3 lr3 kr3,.bool nr4,.bool or4,.slice Ar4 lr4 kr4,.bool nr5,.bool or5,.slice Ar5 lr5 kr5,.bool nr6,.bool or6,.slice Ar6 lr6 kr6] 67):=by rw [hv,← HIC.out];exact (X2.out.over (d:=#[.bool nr0,.bool or0,.slice Ar0 lr0 kr0,.bool nr1,.bool or1,.slice Ar1 lr1 kr1,.bool nr2,.bool or2,.slice Ar2 lr2 kr2,.bool nr3,.bool or3,.slice Ar3 lr3 kr3,.bool nr4,.bool or4,.slice Ar4 lr4 kr4,.bool nr5,.bool or5,.slice Ar5 lr5 kr5,.bool nr6,.bool or6,.slice Ar6 lr6 kr6]) rfl)
 clear ho hn hv
 exact bodyPost_row_t 21 #[.bool nr0,.bool or0,.slice Ar0 lr0 kr0,.bool nr1,.bool or1,.slice Ar1 lr1 kr1,.bool nr2,.bool or2,.slice Ar2 lr2 kr2,.bool nr3,.bool or3,.slice Ar3 lr3 kr3,.bool nr4,.bool or4,.slice Ar4 lr4 kr4,.bool nr5,.bool or5,.slice Ar5 lr5 kr5,.bool nr6,.bool or6,.slice Ar6 lr6 kr6] (.int .i64 0) rfl rfl rfl rfl Tryz.underlying67 rfl rinfo_info (X2.out.row?_all 21 rfl) ⟨⟨_,rfl,_,_,_,_,_,_,_,_,_,_,_,_,_,_,_,_,_,_,_,_,_,_,_,_,_,_,_,_,_,_,_,_,_,_,_,rfl,Cr0.out,Cr1.out,Cr2.out,Cr3.out,Cr4.out,Cr5.out,Cr6.out⟩,HB.out⟩
theorem rmix_bad (u v:Value) (x0 x1 x2 x3 x4 x5 x6 y0 y1 y2 y3 y4 y5 y6:WI) (k:Int) (w:World) (h:k<0∨34<k) (hi:InfoIs w u x0 x1 x2 x3 x4 x5 x6) (hj:InfoIs w v y0 y1 y2 y3 y4 y5 y6) :
  Calls Tryz.prog 41 #[u,v,.int .i64 k] w fun e w'=>(∃ v,e = .returned (.tuple #[v,.int .i64 1])∧InfoQ w' v Iq.zero)∧Below w.heap.size w w':=by
 obtain ⟨n0,o0,A0,l0,k0,n1,o1,A1,l1,k1,n2,o2,A2,l2,k2,n3,o3,A3,l3,k3,n4,o4,A4,l4,k4,n5,o5,A5,l5,k5,n6,o6,A6,l6,k6,rfl,h0,h1,h2,h3,h4,h5,h6⟩:=hi
 have C0:=Lh h0
 have C1:=Lh h1
 have C2:=Lh h2
 have C3:=Lh h3
 have C4:=Lh h4
 have C5:=Lh h5
 have C6:=Lh h6
 clear h0 h1 h2 h3 h4 h5 h6
 obtain ⟨nj0,oj0,Aj0,lj0,kj0,nj1,oj1,Aj1,lj1,kj1,nj2,oj2,Aj2,lj2,kj2,nj3,oj3,Aj3,lj3,kj3,nj4,oj4,Aj4,lj4,kj4,nj5,oj5,Aj5,lj5,kj5,nj6,oj6,Aj6,lj6,kj6,rfl,hj0,hj1,hj2,hj3,hj4,hj5,hj6⟩:=hj
 have Cj0:=Lh hj0
 have Cj1:=Lh hj1
 have Cj2:=Lh hj2
 have Cj3:=Lh hj3
 have Cj4:=Lh hj4
 have Cj5:=Lh hj5
 have Cj6:=Lh hj6
 clear hj0 hj1 hj2 hj3 hj4 hj5 hj6
 rcases h with h|h
 ·go_enter Tryz.func41,Tryz.ntmps41
  obtain ⟨IC,hIC⟩:∃ c:Array Value,#[.bool false,.bool false,.slice none 0 0,.bool false,.bool false,.slice none 0 0,.bool false,.bool false,.slice none 0 0,.bool false,.bool false,.slice none 0 0,.bool false,.bool false,.slice none 0 0,.bool false,.bool false,.slice none 0 0,.bool false,.bool false,.slice none 0 0]=c:=⟨_,rfl⟩
  have hbl:∀ w,bldI Tryz.prog 67 #[] w = .ok (.agg IC) w:=fun w=>by rw [← hIC];exact bldI0_run w
  have s21:IC.size=21:=by rw [← hIC];rfl
  have o21:ones IC=true:=by rw [← hIC];simp [ones,Value.oneCell']
  obtain ⟨u0,hu0⟩:∃ u,u=(((w).alloc (Obj.cells #[.bool n0,.bool o0,.slice A0 l0 k0,.bool n1,.bool o1,.slice A1 l1 k1,.bool n2,.bool o2,.slice A2 l2 k2,.bool n3,.bool o3,.slice A3 l3 k3,.bool n4,.bool o4,.slice A4 l4 k4,.bool n5,.bool o5,.slice A5 l5 k5,.bool n6,.bool o6,.slice A6 l6 k6] 67)).alloc (Obj.cells #[.bool nj0,.bool oj0,.slice Aj0 lj0 kj0,.bool nj1,.bool oj1,.slice Aj1 lj1 kj1,.bool nj2,.bool oj2,.slice Aj2 lj2 kj2,.bool nj3,.bool oj3,.slice Aj3 lj3 kj3,.bool nj4,.bool oj4,.slice Aj4 lj4 kj4,.bool nj5,.bool oj5,.slice Aj5 lj5 kj5,.bool nj6,.bool oj6,.slice Aj6 lj6 kj6] 67)).alloc (Obj.cells #[.bool false,.bool false,.slice none 0 0,.bool false,.bool false,.slice none 0 0,.bool false,.bool false,.slice none 0 0,.bool false,.bool false,.slice none 0 0,.bool false,.bool false,.slice none 0 0,.bool false,.bool false,.slice none 0 0,.bool false,.bool false,.slice none 0 0] 67):=⟨_,rfl⟩
  have HB:Hid (Below w.heap.size w u0):=by rw [hu0];show Below w.heap.size w _;exact below_byR
  have X2:Hid (Blk u0 (w.heap.size+1+1) #[.bool false,.bool false,.slice none 0 0,.bool false,.bool false,.slice none 0 0,.bool false,.bool false,.slice none 0 0,.bool false,.bool false,.slice none 0 0,.bool false,.bool false,.slice none 0 0,.bool false,.bool false,.slice none 0 0,.bool false,.bool false,.slice none 0 0] 67):=by rw [hu0];exact Blk.new' _ _ _ (by simp)
  have pt:=X2.out.put? 0 IC (by rw [s21];exact Nat.le_refl _) o21
  rw [hu0] at pt
  have HIC:Hid (#[.bool false,.bool false,.slice none 0 0,.bool false,.bool false,.slice none 0 0,.bool false,.bool false,.slice none 0 0,.bool false,.bool false,.slice none 0 0,.bool false,.bool false,.slice none 0 0,.bool false,.bool false,.slice none 0 0,.bool false,.bool false,.slice none 0 0]=IC):=hIC
  clear hIC
  go_wp2_with fail
  rw [← hu0]
  have ho:OnlyAt (w.heap.size+1+1) u0 (u0.putRow (w.heap.size+1+1) 0 IC):=OnlyAt.refl.putRow 0 IC
  have B:Blk (u0.putRow (w.heap.size+1+1) 0 IC) (w.heap.size+1+1) #[.bool false,.bool false,.slice none 0 0,.bool false,.bool false,.slice none 0 0,.bool false,.bool false,.slice none 0 0,.bool false,.bool false,.slice none 0 0,.bool false,.bool false,.slice none 0 0,.bool false,.bool false,.slice none 0 0,.bool false,.bool false,.slice none 0 0] 67:=by rw [← HIC.out];exact X2.out.over (d:=#[.bool false,.bool false,.slice none 0 0,.bool false,.bool false,.slice none 0 0,.bool false,.bool false,.slice none 0 0,.bool false,.bool false,.slice none 0 0,.bool false,.bool false,.slice none 0 0,.bool false,.bool false,.slice none 0 0,.bool false,.bool false,.slice none 0 0]) rfl
  replace HB:=Lh (OnlyAt.below ho HB.out (Nat.le_refl _) (by omega))
  exact bodyPost_row_t 21 #[.bool false,.bool false,.slice none 0 0,.bool false,.bool false,.slice none 0 0,.bool false,.bool false,.slice none 0 0,.bool false,.bool false,.slice none 0 0,.bool false,.bool false,.slice none 0 0,.bool false,.bool false,.slice none 0 0,.bool false,.bool false,.slice none 0 0] (.int .i64 1) rfl rfl rfl rfl Tryz.underlying67 rfl rinfo_info (B.row?_all 21 rfl) ⟨⟨_,rfl,zeroInfo _⟩,HB.out⟩
 ·have h2:¬ k<0:=by omega
  go_enter Tryz.func41,Tryz.ntmps41
  obtain ⟨IC,hIC⟩:∃ c:Array Value,#[.bool false,.bool false,.slice none 0 0,.bool false,.bool false,.slice none 0 0,.bool false,.bool false,.slice none 0 0,.bool false,.bool false,.slice none 0 0,.bool false,.bool false,.slice none 0 0,.bool false,.bool false,.slice none 0 0,.bool false,.bool false,.slice none 0 0]=c:=⟨_,rfl⟩
  have hbl:∀ w,bldI Tryz.prog 67 #[] w = .ok (.agg IC) w:=fun w=>by rw [← hIC];exact bldI0_run w
  have s21:IC.size=21:=by rw [← hIC];rfl
  have o21:ones IC=true:=by rw [← hIC];simp [ones,Value.oneCell']
  obtain ⟨u0,hu0⟩:∃ u,u=(((w).alloc (Obj.cells #[.bool n0,.bool o0,.slice A0 l0 k0,.bool n1,.bool o1,.slice A1 l1 k1,.bool n2,.bool o2,.slice A2 l2 k2,.bool n3,.bool o3,.slice A3 l3 k3,.bool n4,.bool o4,.slice A4 l4 k4,.bool n5,.bool o5,.slice A5 l5 k5,.bool n6,.bool o6,.slice A6 l6 k6] 67)).alloc (Obj.cells #[.bool nj0,.bool oj0,.slice Aj0 lj0 kj0,.bool nj1,.bool oj1,.slice Aj1 lj1 kj1,.bool nj2,.bool oj2,.slice Aj2 lj2 kj2,.bool nj3,.bool oj3,.slice Aj3 lj3 kj3,.bool nj4,.bool oj4,.slice Aj4 lj4 kj4,.bool nj5,.bool oj5,.slice Aj5 lj5 kj5,.bool nj6,.bool oj6,.slice Aj6 lj6 kj6] 67)).alloc (Obj.cells #[.bool false,.bool false,.slice none 0 0,.bool false,.bool false,.slice none 0 0,.bool false,.bool false,.slice none 0 0,.bool false,.bool false,.slice none 0 0,.bool false,.bool false,.slice none 0 0,.bool false,.bool false,.slice none 0 0,.bool false,.bool false,.slice none 0 0] 67):=⟨_,rfl⟩
  have HB:Hid (Below w.heap.size w u0):=by rw [hu0];show Below w.heap.size w _;exact below_byR
  have X2:Hid (Blk u0 (w.heap.size+1+1) #[.bool false,.bool false,.slice none 0 0,.bool false,.bool false,.slice none 0 0,.bool false,.bool false,.slice none 0 0,.bool false,.bool false,.slice none 0 0,.bool false,.bool false,.slice none 0 0,.bool false,.bool false,.slice none 0 0,.bool false,.bool false,.slice none 0 0] 67):=by rw [hu0];exact Blk.new' _ _ _ (by simp)
  have pt:=X2.out.put? 0 IC (by rw [s21];exact Nat.le_refl _) o21
  rw [hu0] at pt
  have HIC:Hid (#[.bool false,.bool false,.slice none 0 0,.bool false,.bool false,.slice none 0 0,.bool false,.bool false,.slice none 0 0,.bool false,.bool false,.slice none 0 0,.bool false,.bool false,.slice none 0 0,.bool false,.bool false,.slice none 0 0,.bool false,.bool false,.slice none 0 0]=IC):=hIC
  clear hIC
  go_wp2_with fail
  rw [← hu0]
  have ho:OnlyAt (w.heap.size+1+1) u0 (u0.putRow (w.heap.size+1+1) 0 IC):=OnlyAt.refl.putRow 0 IC
  have B:Blk (u0.putRow (w.heap.size+1+1) 0 IC) (w.heap.size+1+1) #[.bool false,.bool false,.slice none 0 0,.bool false,.bool false,.slice none 0 0,.bool false,.bool false,.slice none 0 0,.bool false,.bool false,.slice none 0 0,.bool false,.bool false,.slice none 0 0,.bool false,.bool false,.slice none 0 0,.bool false,.bool false,.slice none 0 0] 67:=by rw [← HIC.out];exact X2.out.over (d:=#[.bool false,.bool false,.slice none 0 0,.bool false,.bool false,.slice none 0 0,.bool false,.bool false,.slice none 0 0,.bool false,.bool false,.slice none 0 0,.bool false,.bool false,.slice none 0 0,.bool false,.bool false,.slice none 0 0,.bool false,.bool false,.slice none 0 0]) rfl
  replace HB:=Lh (OnlyAt.below ho HB.out (Nat.le_refl _) (by omega))
  exact bodyPost_row_t 21 #[.bool false,.bool false,.slice none 0 0,.bool false,.bool false,.slice none 0 0,.bool false,.bool false,.slice none 0 0,.bool false,.bool false,.slice none 0 0,.bool false,.bool false,.slice none 0 0,.bool false,.bool false,.slice none 0 0,.bool false,.bool false,.slice none 0 0] (.int .i64 1) rfl rfl rfl rfl Tryz.underlying67 rfl rinfo_info (B.row?_all 21 rfl) ⟨⟨_,rfl,zeroInfo _⟩,HB.out⟩
theorem rmix_c (i j:Iq) (hi:i.Sml 120) (hj:j.Sml 120) (u v:Value) (k:Int) (w:World) (hu:InfoQ w u i) (hv:InfoQ w v j) :
  Calls Tryz.prog 41 #[u,v,.int .i64 k] w fun e w'=>(∃ v,e = .returned (.tuple #[v,.int .i64 (mixQ i j k).2])∧InfoQ w' v (mixQ i j k).1)∧Below w.heap.size w w':=by
 by_cases h:0≤k∧k≤34
 ·have e:mixQ i j k=(mixI i j k,0):=by unfold mixQ;rw [if_pos h]
  have kk:Sm 120 k:=(Sm.of64 (by omega) (by omega)).mono (by decide)
  have k2:Sm 120 (34-k):=(Sm.of64 (by omega) (by omega)).mono (by decide)
  have k3:Sm 120 34:=(Sm.of64 (by decide) (by decide)).mono (by decide)
  have hP:Hid ((WI.of k).mul (WI.of j.N)=WI.of (k*j.N)):=WI.of_mul (kk.lim (by decide)) (hj.N.lim (by decide))
  have hQ:Hid ((WI.of (34-k)).mul (WI.of i.N)=WI.of ((34-k)*i.N)):=WI.of_mul (k2.lim (by decide)) (hi.N.lim (by decide))
  have sP:=kk.mul hj.N
  have sQ:=k2.mul hi.N
  have key:∀ a b,Sm 120 a→Sm 120 b→Hid (((WI.of a).mul (WI.of (k*j.N))).add ((WI.of b).mul (WI.of ((34-k)*i.N)))=WI.of (a*(k*j.N)+b*((34-k)*i.N))):=fun a b ha hb=>by
   show _=_
   rw [WI.of_mul (ha.lim (by decide)) (sP.lim (by decide)),WI.of_mul (hb.lim (by decide)) (sQ.lim (by decide)),WI.of_add ((ha.mul sP).lim (by decide)) ((hb.mul sQ).lim (by decide))]
  have ht:Hid ((WI.of i.N).mul (WI.of j.N)=WI.of (i.N*j.N)):=WI.of_mul (hi.N.lim (by decide)) (hj.N.lim (by decide))
  have hN:Hid ((WI.of 34).mul (WI.of (i.N*j.N))=WI.of (34*(i.N*j.N))):=WI.of_mul (k3.lim (by decide)) ((hi.N.mul hj.N).lim (by decide))
  rw [e]
  exact rmix_main u v _ _ _ _ _ _ _ _ _ _ _ _ _ _ _ _ _ _ _ _ _ _ _ _ k w h.1 h.2 hP hQ (key _ _ hi.A hj.A) (key _ _ hi.B hj.B) (key _ _ hi.D hj.D) (key _ _ hi.U hj.U) (key _ _ hi.V hj.V) (key _ _ hi.Z hj.Z) ht hN hu hv
 ·have e:mixQ i j k=(Iq.zero,1):=by unfold mixQ;rw [if_neg h]
  rw [e]
  exact rmix_bad u v _ _ _ _ _ _ _ _ _ _ _ _ _ _ k w (by omega) hu hv
end Go.Proofs.YtilginoibhfeiaaGreat
