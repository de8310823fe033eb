/- The walk of info.In. (Printed by tools/i11.py.) -/
import Derived.Test.YtilginoibhfeiaaGreatIC
set_option maxRecDepth 100000
set_option maxHeartbeats 16000000
namespace Go.Proofs.YtilginoibhfeiaaGreat
open Go.RowKit
def inW (a0 a1 a2 a3 a4 a5 _a6:WI) (p q:Int):WI:=((((sum4 a0 ((WI.of p).mul (WI.of p)) a2 ((WI.of q).mul (WI.of q))).add (a1.mul ((WI.of 2).mul ((WI.of p).mul (WI.of q))))).sub ((WI.of 2).mul (sum4 a3 (WI.of p) a4 (WI.of q)))).add a5)
theorem cmp_v (x y:WI) (n:Int) (k:Bool) (h:x.cmp y=(n,k)) (w:World) :
  Calls Tryz.prog 100 #[.agg x.cells,.agg y.cells] w fun e w'=>e = .returned (.tuple #[.int .i64 n,.bool k])∧Below w.heap.size w w':=by
 have:=cmp_I x y w
 rw [h] at this;exact this
theorem iwithin_v (x y m:Int) (k:Bool) (hm:0≤m∧m≤9223372036854775807) (h:withinB x y m=k) (w:World) :
  Calls Tryz.prog 96 #[ptV x y,.int .i64 m] w fun e w'=>e = .returned (.bool k)∧Below w.heap.size w w':=by
 subst h;exact iwithin_c x y m hm w
theorem in_walk (a0 a1 a2 a3 a4 a5 a6:WI) (p q n:Int) (HV:Hid (overB [a0,a1,a2,a3,a4,a5,a6]=false)) (HP2:Hid (withinB p q 1073741824=true)) (HC:Hid ((inW a0 a1 a2 a3 a4 a5 a6 p q).cmp a6=(n,true))) (H6:Hid (-9223372036854775808≤p∧p≤9223372036854775807)) (H7:Hid (-9223372036854775808≤q∧q≤9223372036854775807)) (w:World) :
  Calls Tryz.prog 38 #[.agg (blk [a0,a1,a2,a3,a4,a5,a6]),ptV p q] w fun e w'=>e = .returned (.bool (decide (n≤0)))∧Below w.heap.size w w':=by
 go_enter Tryz.func38,Tryz.ntmps38
 go_wp2_with fail
 refine (any_c _ _ _ _ _ _ _ HV.out _).mono ?_;rintro e w1 ⟨rfl,hb1⟩;have z_w1:=hb1.size;(try simp at z_w1);obtain ⟨yw1aa,cw1aa,fw1aa,rw1aa,tw1aa,pw1aa⟩:=bq hb1 (w.heap.size);obtain ⟨yw1ab,cw1ab,fw1ab,rw1ab,tw1ab,pw1ab⟩:=bq hb1 (w.heap.size+1)
 go_wp2_with fail
 refine (iwithin_v _ _ _ _ (by decide) HP2.out _).mono ?_;rintro e wc ⟨rfl,hb2⟩
 have HI:Hid (Blk wc w.heap.size (blk [a0,a1,a2,a3,a4,a5,a6]) 60):=(((Blk.new _ _ _).alloc _).keep hb1).keep hb2
 have HR:Hid (Blk wc (w.heap.size+1) #[.int .i64 p,.int .i64 q] 23):=((Blk.new' _ _ _ (by simp)).keep hb1).keep hb2
 have hbw:Below w.heap.size w wc:=below_byR
 clear hb2
 clear z_w1 yw1aa cw1aa fw1aa rw1aa tw1aa pw1aa yw1ab cw1ab fw1ab rw1ab tw1ab pw1ab
 clear hb1
 go_wp2_with fail
 go_cut [5,6,7] from 8 (fun s5 s6 s7 we=>∃ g5 g6 g7,s5 = .pointer (some ⟨g5,0,none⟩)∧s6 = .pointer (some ⟨g6,0,none⟩)∧s7 = .pointer (some ⟨g7,0,none⟩)∧w.heap.size≤g5∧w.heap.size≤g6∧w.heap.size≤g7∧Hid (we.row? g5 0 18=some (WI.of p).cells)∧Hid (we.row? g6 0 18=some (WI.of q).cells)∧Hid (we.row? g7 0 18=some (WI.of 2).cells)∧Hid (Below wc.heap.size wc we))
 case first =>
  have c0:=@inw_cell _ _ _ (HR.out.cell (i:=0) rfl)
  have c1:=@inw_cell _ _ _ (HR.out.cell (i:=1) rfl)
  refine wp_region_fresh' 10 (fun k=>match k with|7=>some ⟨.cells (cellsI false false 0) 58,fun g => .pointer (some ⟨g,0,none⟩)⟩|8=>some ⟨.cells (cellsI false false 0) 58,fun g => .pointer (some ⟨g,0,none⟩)⟩|9=>some ⟨.cells (cellsI false false 0) 58,fun g => .pointer (some ⟨g,0,none⟩)⟩|_=>none) (fun _=>[]) (by kernel_rfl) (by kernel_rfl) ?_;refine ex_list ?_;apply Exists.intro;refine ex_list ?_;apply Exists.intro;refine ex_list ?_;apply Exists.intro;refine ex_list ?_;apply Exists.intro;refine ex_list ?_;apply Exists.intro;refine ex_list ?_;apply Exists.intro;refine ex_list ?_;apply Exists.intro;refine ex_list ⟨undef,?_⟩;refine ex_list ⟨undef,?_⟩;refine ex_list ⟨undef,?_⟩;refine ⟨[],fun gg NN hN=>?_⟩;simp only [List.take_succ_cons,List.take_zero,List.drop_succ_cons,List.drop_zero];(repeat (first|(refine lexF_quiet rfl ?_;go_big_quiet_step (first|exact rfl|((go_at_call 84;exact calls_in (of_c _ (by first|with_reducible exact two_1.out.1|with_reducible exact H6.out.1|with_reducible exact H7.out.1) (by first|with_reducible exact two_1.out.2|with_reducible exact H6.out.2|with_reducible exact H7.out.2) _))));refine wpQuiet_nil ⟨rfl,?_⟩)|(refine lexF_fresh _ (by rfl) (by rfl) ?hex ?_;(case hex=>(intro wx;first|(go_simp;done)|(go_simp;rfl)));simp only [Act.put,List.setIfInBounds_toArray,List.set_cons_succ,List.set_cons_zero])))
  refine lexF_nil ?_
  intro wn hbn' hh hd
  have hbn:Below wc.heap.size wc wn:=hbn'
  obtain ⟨l5,e5⟩:=hh 7 _ (by decide) rfl
  obtain ⟨l6,e6⟩:=hh 8 _ (by decide) rfl
  obtain ⟨l7,e7⟩:=hh 9 _ (by decide) rfl
  have n5_6:gg 7≠gg 8:=hd 7 8 (by decide) (by decide) rfl rfl (by decide)
  have n5_7:gg 7≠gg 9:=hd 7 9 (by decide) (by decide) rfl rfl (by decide)
  have n6_7:gg 8≠gg 9:=hd 8 9 (by decide) (by decide) rfl rfl (by decide)
  have G5:Hid (Blk wn (gg 7) (cellsI false false 0) 58):=e5
  have G6:Hid (Blk wn (gg 8) (cellsI false false 0) 58):=e6
  have G7:Hid (Blk wn (gg 9) (cellsI false false 0) 58):=e7
  have hp5:(wn).put? (gg 7) 0 (WI.of p).cells=some ((wn).putRow (gg 7) 0 (WI.of p).cells):=(G5.out).put? 0 _ (by simp) (by simp)
  have hp6:((wn).putRow (gg 7) 0 (WI.of p).cells).put? (gg 8) 0 (WI.of q).cells=some (((wn).putRow (gg 7) 0 (WI.of p).cells).putRow (gg 8) 0 (WI.of q).cells):=(((G6.out).putRow_other (Ne.symm n5_6) 0 (WI.of p).cells)).put? 0 _ (by simp) (by simp)
  have hp7:(((wn).putRow (gg 7) 0 (WI.of p).cells).putRow (gg 8) 0 (WI.of q).cells).put? (gg 9) 0 (WI.of 2).cells=some ((((wn).putRow (gg 7) 0 (WI.of p).cells).putRow (gg 8) 0 (WI.of q).cells).putRow (gg 9) 0 (WI.of 2).cells):=(((((G7.out).putRow_other (Ne.symm n5_7) 0 (WI.of p).cells)).putRow_other (Ne.symm n6_7) 0 (WI.of q).cells)).put? 0 _ (by simp) (by simp)
  clear hh hd hbn' e5 e6 e7
  go_wp2_with fail
  go_meet
  refine ⟨gg 7,gg 8,gg 9,rfl,rfl,rfl,Nat.le_trans hbw.size l5,Nat.le_trans hbw.size l6,Nat.le_trans hbw.size l7,?_,?_,?_,(Below_putRow (Below_putRow (Below_putRow hbn l5 _ _) l6 _ _) l7 _ _)⟩
  ·show _=_;rw [(((((((G5.out).putRow_same 0 (WI.of p).cells)).putRow_other n5_6 0 (WI.of q).cells)).putRow_other n5_7 0 (WI.of 2).cells)).row? 0 18 (by simp)];simp
  ·show _=_;rw [(((((((G6.out).putRow_other (Ne.symm n5_6) 0 (WI.of p).cells)).putRow_same 0 (WI.of q).cells)).putRow_other n6_7 0 (WI.of 2).cells)).row? 0 18 (by simp)];simp
  ·show _=_;rw [(((((((G7.out).putRow_other (Ne.symm n5_7) 0 (WI.of p).cells)).putRow_other (Ne.symm n6_7) 0 (WI.of q).cells)).putRow_same 0 (WI.of 2).cells)).row? 0 18 (by simp)];simp
 case rest =>
  obtain ⟨g5,g6,g7,rfl,rfl,rfl,l5,l6,l7,r5,r6,r7,HBN⟩:=hcut
  have hbn:=HBN.out
  have hbw2:=Below.trans hbw (hbn.mono hbw.size)
  clear hbw
  have hbw:=hbw2
  clear hbw2
  have HI2:=Lib.hid (HI.out.keep hbn)
  clear HI
  have HI:=HI2
  clear HI2
  have HR2:=Lib.hid (HR.out.keep hbn)
  clear HR
  have HR:=HR2
  clear HR2
  clear hbn HBN
  go_wp2_with fail
  go_cut [8] from 9 (fun s8 we=>∃ g8,s8 = .pointer (some ⟨g8,0,none⟩)∧w.heap.size≤g8∧Hid (Blk we g8 ((sum4 a0 ((WI.of p).mul (WI.of p)) a2 ((WI.of q).mul (WI.of q))).add (a1.mul ((WI.of 2).mul ((WI.of p).mul (WI.of q))))).cells 58)∧Hid (Below wc.heap.size wc we))
  case first =>
   have i0:=@inw_row _ _ _ _ _ ((HI.out.row? 0 18 (by simp)).trans (congrArg some (blk_x0 _ _)))
   have i1:=@inw_row _ _ _ _ _ ((HI.out.row? 18 18 (by simp)).trans (congrArg some (blk_x1 _ _ _)))
   have i2:=@inw_row _ _ _ _ _ ((HI.out.row? 36 18 (by simp)).trans (congrArg some (blk_x2 _ _ _ _)))
   have k5:=@inw_row _ _ _ _ _ r5.out
   have k6:=@inw_row _ _ _ _ _ r6.out
   have k7:=@inw_row _ _ _ _ _ r7.out
   refine wp_region_fresh' 22 (fun k=>match k with|10=>some ⟨.cells (blk [a0,(WI.of p).mul (WI.of p),a2,(WI.of q).mul (WI.of q)]) 58,fun g => .slice (some ⟨g,0,none⟩) 4 4⟩|21=>some ⟨.cells (cellsI false false 0) 58,fun g => .pointer (some ⟨g,0,none⟩)⟩|_=>none) (fun k=>match k with|11=>[10]|_=>[]) (by kernel_rfl) (by kernel_rfl) ?_;refine ex_list ?_;apply Exists.intro;refine ex_list ?_;apply Exists.intro;refine ex_list ?_;apply Exists.intro;refine ex_list ?_;apply Exists.intro;refine ex_list ?_;apply Exists.intro;refine ex_list ?_;apply Exists.intro;refine ex_list ?_;apply Exists.intro;refine ex_list ?_;apply Exists.intro;refine ex_list ?_;apply Exists.intro;refine ex_list ?_;apply Exists.intro;refine ex_list ⟨undef,?_⟩;refine ex_list ?_;apply Exists.intro;refine ex_list ?_;apply Exists.intro;refine ex_list ?_;apply Exists.intro;refine ex_list ?_;apply Exists.intro;refine ex_list ?_;apply Exists.intro;refine ex_list ?_;apply Exists.intro;refine ex_list ?_;apply Exists.intro;refine ex_list ?_;apply Exists.intro;refine ex_list ?_;apply Exists.intro;refine ex_list ?_;apply Exists.intro;refine ex_list ⟨undef,?_⟩;refine ⟨[],fun gg NN hN=>?_⟩;simp only [List.take_succ_cons,List.take_zero,List.drop_succ_cons,List.drop_zero];(repeat (first|(refine lexF_quiet rfl ?_;go_big_quiet_step (first|exact rfl|(first|(go_at_call 91;exact calls_in (mul_I _ _ _))|(go_at_call 98;exact calls_in (add_I _ _ _))|(go_at_call 86;rename_i px;exact calls_in (sum4_c _ _ _ _ _ _ (px.has 10 (hN 11 10 (by simp)) _ rfl).2))));refine wpQuiet_nil ⟨rfl,?_⟩)|(refine lexF_fresh _ (by rfl) (by rfl) ?hex ?_;(case hex=>(intro wx;first|(go_simp;done)|(go_simp;rfl)));simp only [Act.put,List.setIfInBounds_toArray,List.set_cons_succ,List.set_cons_zero])))
   refine lexF_nil ?_
   intro wn hbn' hh hd
   have hbn:Below wc.heap.size wc wn:=hbn'
   obtain ⟨l8,e8⟩:=hh 21 _ (by decide) rfl
   have G8:Hid (Blk wn (gg 21) (cellsI false false 0) 58):=e8
   have hp8:(wn).put? (gg 21) 0 ((sum4 a0 ((WI.of p).mul (WI.of p)) a2 ((WI.of q).mul (WI.of q))).add (a1.mul ((WI.of 2).mul ((WI.of p).mul (WI.of q))))).cells=some ((wn).putRow (gg 21) 0 ((sum4 a0 ((WI.of p).mul (WI.of p)) a2 ((WI.of q).mul (WI.of q))).add (a1.mul ((WI.of 2).mul ((WI.of p).mul (WI.of q))))).cells):=(G8.out).put? 0 _ (by simp) (by simp)
   clear hh hd hbn' e8 i0 i1 i2 k5 k6 k7
   go_wp2_with fail
   go_meet
   refine ⟨gg 21,rfl,Nat.le_trans hbw.size l8,?_,(Below_putRow hbn l8 _ _)⟩
   ·exact (G8.out.putRow_same 0 ((sum4 a0 ((WI.of p).mul (WI.of p)) a2 ((WI.of q).mul (WI.of q))).add (a1.mul ((WI.of 2).mul ((WI.of p).mul (WI.of q))))).cells).of_eq (by rw [splice_all _ _ (by simp)])
  case rest =>
   obtain ⟨g8,rfl,l8,r8,HBN⟩:=hcut
   have hbn:=HBN.out
   have hbw2:=Below.trans hbw (hbn.mono hbw.size)
   clear hbw
   have hbw:=hbw2
   clear hbw2
   have HI2:=Lib.hid (HI.out.keep hbn)
   clear HI
   have HI:=HI2
   clear HI2
   have r5:=Lib.hid ((Below.row? hbn g5 0 18 (row_lt r5.out)).trans r5.out)
   have r6:=Lib.hid ((Below.row? hbn g6 0 18 (row_lt r6.out)).trans r6.out)
   have r7:=Lib.hid ((Below.row? hbn g7 0 18 (row_lt r7.out)).trans r7.out)
   have HR2:=Lib.hid (HR.out.keep hbn)
   clear HR
   have HR:=HR2
   clear HR2
   clear hbn HBN
   go_wp2_with fail
   have i3:=@inw_row _ _ _ _ _ ((HI.out.row? 54 18 (by simp)).trans (congrArg some (blk_x3 _ _ _ _ _)))
   have i4:=@inw_row _ _ _ _ _ ((HI.out.row? 72 18 (by simp)).trans (congrArg some (blk_x4 _ _ _ _ _ _)))
   have i5:=@inw_row _ _ _ _ _ ((HI.out.row? 90 18 (by simp)).trans (congrArg some (blk_x5 _ _ _ _ _ _ _)))
   have k5:=@inw_row _ _ _ _ _ r5.out
   have k6:=@inw_row _ _ _ _ _ r6.out
   have k7:=@inw_row _ _ _ _ _ r7.out
   have k8:=@inw_row _ _ _ _ _ (r8.out.row?_all 18 (by simp))
   refine wp_region_fresh' 15 (fun k=>match k with|8=>some ⟨.cells (blk [a3,WI.of p,a4,WI.of q]) 58,fun g => .slice (some ⟨g,0,none⟩) 4 4⟩|_=>none) (fun k=>match k with|9=>[8]|_=>[]) (by kernel_rfl) (by kernel_rfl) ?_;refine ex_list ?_;apply Exists.intro;refine ex_list ?_;apply Exists.intro;refine ex_list ?_;apply Exists.intro;refine ex_list ?_;apply Exists.intro;refine ex_list ?_;apply Exists.intro;refine ex_list ?_;apply Exists.intro;refine ex_list ?_;apply Exists.intro;refine ex_list ?_;apply Exists.intro;refine ex_list ⟨undef,?_⟩;refine ex_list ?_;apply Exists.intro;refine ex_list ?_;apply Exists.intro;refine ex_list ?_;apply Exists.intro;refine ex_list ?_;apply Exists.intro;refine ex_list ?_;apply Exists.intro;refine ex_list ?_;apply Exists.intro;refine ⟨[],fun gg NN hN=>?_⟩;simp only [List.take_succ_cons,List.take_zero,List.drop_succ_cons,List.drop_zero];(repeat (first|(refine lexF_quiet rfl ?_;go_big_quiet_step (first|exact rfl|(first|(go_at_call 91;exact calls_in (mul_I _ _ _))|(go_at_call 98;exact calls_in (add_I _ _ _))|(go_at_call 99;exact calls_in (sub_I _ _ _))|(go_at_call 86;rename_i px;exact calls_in (sum4_c _ _ _ _ _ _ (px.has 8 (hN 9 8 (by simp)) _ rfl).2))));refine wpQuiet_nil ⟨rfl,?_⟩)|(refine lexF_fresh _ (by rfl) (by rfl) ?hex ?_;(case hex=>(intro wx;first|(go_simp;done)|(go_simp;rfl)));simp only [Act.put,List.setIfInBounds_toArray,List.set_cons_succ,List.set_cons_zero])))
   refine lexF_nil ?_
   intro w8 hb8' hh hd
   have hb8:Below wc.heap.size wc w8:=hb8'
   clear hb8' hh hd i3 i4 i5 k5 k6 k7 k8
   have B8:=Lib.hid (r8.out.keep hb8)
   have hp8:=B8.out.put? 0 (inW a0 a1 a2 a3 a4 a5 a6 p q).cells (by simp) (by simp)
   have rR:=row_put hp8 (n:=18) (by simp)
   have HI8:=Lib.hid (HI.out.keep hb8)
   have n8:w.heap.size≠g8:=by intro h;have a1:=HI.out;have a2:=r8.out;rw [← h] at a2;unfold Blk at a1 a2;rw [a1] at a2;injection a2 with a2;injection a2 with _ a2;cases a2
   have i6:=((HI8.out.putRow_other n8 0 (inW a0 a1 a2 a3 a4 a5 a6 p q).cells).row? 108 18 (by simp)).trans (congrArg some (blk_x6 _ _ _ _ _ _ _ _))
   have hbe:Below w.heap.size w (w8.putRow g8 0 (inW a0 a1 a2 a3 a4 a5 a6 p q).cells):=Below_putRow (Below.trans hbw (hb8.mono hbw.size)) (by omega) _ _
   have hX:(inW a0 a1 a2 a3 a4 a5 a6 p q)=(inW a0 a1 a2 a3 a4 a5 a6 p q):=rfl
   obtain ⟨Z,hZ⟩:∃ Z,inW a0 a1 a2 a3 a4 a5 a6 p q=Z:=⟨_,rfl⟩
   rw [hZ] at hp8 rR i6 hbe HC
   unfold inW at hZ
   rw [hZ]
   clear hX hZ HI8 B8 hb8 HI r8 HR r5 r6 r7
   go_wp2_with fail
   refine (cmp_v _ _ _ _ HC.out _).mono ?_;rintro e w9 ⟨rfl,hb9⟩
   have hbf:=hbe.trans (hb9.mono hbe.size)
   go_wp2
   go_ret
   exact ⟨rfl,hbf⟩
theorem infoIn_c (i:Iq) (h:i.Sml 205) (p q:Int) (hp : -1073741824≤p∧p≤1073741824 ∧ -1073741824≤q∧q≤1073741824) (w:World) :
  Calls Tryz.prog 38 #[iqV i,ptV p q] w fun e w'=>e = .returned (.bool (decide (i.hom p q 1≤i.N)))∧Below w.heap.size w w':=by
 have lA:=h.A.lim (by decide)
 have lB:=h.B.lim (by decide)
 have lD:=h.D.lim (by decide)
 have lU:=h.U.lim (by decide)
 have lV:=h.V.lim (by decide)
 have lZ:=h.Z.lim (by decide)
 have lN:=h.N.lim (by decide)
 have sp:Sm 63 p:=Sm.of64 (by omega) (by omega)
 have sq:Sm 63 q:=Sm.of64 (by omega) (by omega)
 have s2:Sm 63 2:=Sm.of64 (by decide) (by decide)
 have HV:overB [WI.of i.A,WI.of i.B,WI.of i.D,WI.of i.U,WI.of i.V,WI.of i.Z,WI.of i.N]=false:=by
  simp [overB,WI.ov_of lA,WI.ov_of lB,WI.ov_of lD,WI.ov_of lU,WI.ov_of lV,WI.ov_of lZ,WI.ov_of lN]
 have pp:=sp.mul sp
 have qq:=sq.mul sq
 have pq:=sp.mul sq
 have b1:=(h.A.mul pp).add ((h.D.mul qq).mono (show 205+(63+63)≤205+(63+63) by decide))
 have b2:=h.B.mul (s2.mul pq)
 have b3:=(b1.mono (show 205+(63+63)+1≤400 by decide)).add (b2.mono (show 205+(63+(63+63))≤400 by decide))
 have b4:=(h.U.mul sp).add (h.V.mul sq)
 have b5:=s2.mul b4
 have b6:=(b3.mono (show 400+1≤402 by decide)).sub (b5.mono (show 63+(205+63+1)≤402 by decide))
 have b7:=(b6.mono (show 402+1≤410 by decide)).add (h.Z.mono (show 205≤410 by decide))
 have HW:inW (WI.of i.A) (WI.of i.B) (WI.of i.D) (WI.of i.U) (WI.of i.V) (WI.of i.Z) (WI.of i.N) p q=WI.of (i.hom p q 1):=by
  unfold inW
  rw [mulW sp sp,mulW sq sq,mulW sp sq,sum4_of (j:=205) _ _ _ _ h.A (pp.mono (by decide)) h.D (qq.mono (by decide)) (by decide),sum4_of (j:=205) _ _ _ _ h.U (sp.mono (by decide)) h.V (sq.mono (by decide)) (by decide),
   WI.of_mul (s2.lim (by decide)) (pq.lim (by decide)),WI.of_mul lB ((s2.mul pq).lim (by decide)),WI.of_add (b1.lim (by decide)) (b2.lim (by decide)),WI.of_mul (s2.lim (by decide)) (b4.lim (by decide)),
   WI.of_sub (b3.lim (by decide)) (b5.lim (by decide)),WI.of_add (b6.lim (by decide)) lZ]
  congr 1
  unfold Iq.hom;grind
 have HH:Sm 411 (i.hom p q 1):=by
  have e:i.hom p q 1=(i.A*(p*p)+i.D*(q*q)+i.B*(2*(p*q))-2*(i.U*p+i.V*q))+i.Z:=by unfold Iq.hom;grind
  rw [e];exact b7
 have HC:=WI.of_cmp (i.hom p q 1) i.N (HH.lim (by decide)) lN
 have:=in_walk _ _ _ _ _ _ _ p q (if i.hom p q 1<i.N then -1 else if i.N<i.hom p q 1 then 1 else 0) HV ((withinB_iff _ _ _).2 hp) (by show _=_;rw [HW];exact HC) ⟨by omega,by omega⟩ ⟨by omega,by omega⟩ w
 have e:decide ((if i.hom p q 1<i.N then (-1:Int) else if i.N<i.hom p q 1 then 1 else 0)≤0)=decide (i.hom p q 1≤i.N):=by
  by_cases h1:i.hom p q 1<i.N
  ·rw [if_pos h1];simp;omega
  ·by_cases h2:i.N<i.hom p q 1
   ·rw [if_neg h1,if_pos h2];simp;omega
   ·rw [if_neg h1,if_neg h2];simp;omega
 rw [e] at this
 exact this
end Go.Proofs.YtilginoibhfeiaaGreat
