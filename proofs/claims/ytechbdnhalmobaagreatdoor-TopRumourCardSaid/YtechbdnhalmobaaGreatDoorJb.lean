/- The walk of info.Ellipse. (Printed by tools/i6.py.) -/
import Derived.Test.YtechbdnhalmobaaGreatDoorJa
set_option maxRecDepth 100000
set_option maxHeartbeats 16000000
namespace Go.Proofs.YtechbdnhalmobaaGreatDoor
set_option linter.unusedSimpArgs false
set_option linter.unusedVariables false
open Go.RowKit
theorem OnlyAt.row? {g:Nat} {w w':World} (h:OnlyAt g w w') (b o n:Nat) (hb:b<w.heap.size) (hne:b≠g):w'.row? b o n=w.row? b o n:=by
 unfold World.row?;rw [h.block b hb hne]
structure PInv (w:World) (g:Nat) (K:Int) (v:World):Prop where
 lt:g<w.heap.size
 only:OnlyAt g w v
 blk:Blk v g #[.int .i64 K] 46
theorem PInv.drew {w v:World} {g:Nat} {K:Int} (h:PInv w g K v):PInv w g K v.drew:=⟨h.lt,h.only.drew,h.blk.drew⟩
theorem PInv.alloc {w v:World} {g:Nat} {K:Int} (h:PInv w g K v) (o:Obj):PInv w g K (v.alloc o):=⟨h.lt,h.only.alloc o,h.blk.alloc o⟩
theorem PInv.setNew {w v W:World} {g:Nat} {K k:Int} (h:PInv w g K v) (hW:PInv w g k W) (i:Nat) (x:Value):PInv w g K (v.setCell ⟨W.heap.size,i,none⟩ x) :=
 ⟨h.lt,h.only.setNew hW.only.size i x,h.blk.setCell_other (by have:=h.lt;have:=hW.only.size;simp only;omega) x⟩
theorem PInv.room {w v:World} {g:Nat} {K:Int} (h:PInv w g K v):w.heap.size≤v.heap.size:=h.only.size
theorem Blk.put5 {w:World} {g:Nat} {a b c d e:Value} {t:TypeId} (h:Blk w g #[a,b,c,d,e] t) (x y z u v:Value) :
  Blk (((((w.setCell ⟨g,0,none⟩ x).setCell ⟨g,1,none⟩ y).setCell ⟨g,2,none⟩ z).setCell ⟨g,3,none⟩ u).setCell ⟨g,4,none⟩ v) g #[x,y,z,u,v] t :=
 (((((h.setCell_same 0 x).setCell_same 1 y).setCell_same 2 z).setCell_same 3 u).setCell_same 4 v).of_eq rfl
theorem drew_hs (w:World):w.drew.heap.size=w.heap.size:=rfl
theorem PInv.ne {w v:World} {g:Nat} {K:Int} (h:PInv w g K v):v.heap.size≠g:=by have:=h.lt;have:=h.only.size;omega
theorem PInv.rows {w v:World} {g:Nat} {K:Int} (h:PInv w g K v) {a b c:Nat} {x y z:Array Value} (ha:a≠g) (hb:b≠g) (hc:c≠g) (xa:Hid (w.row? a 0 18=some x)) (xb:Hid (w.row? b 0 18=some y)) (xc:Hid (w.row? c 0 18=some z)) :
  v.row? a 0 18=some x∧v.row? b 0 18=some y∧v.row? c 0 18=some z :=
 ⟨(h.only.row? a 0 18 (row_lt xa.out) ha).trans xa.out,(h.only.row? b 0 18 (row_lt xb.out) hb).trans xb.out,(h.only.row? c 0 18 (row_lt xc.out) hc).trans xc.out⟩
theorem part_inv (x y:WI) (n e K:Int) (g:Nat) {w0 w:World} (H:Hid (nearV x y=(n,e))) (h:PInv w0 g K w) :
  Calls Tryz.prog 275 #[.func (.func 276) #[] #[],.agg x.cells,.agg y.cells,.pointer (some ⟨g,0,none⟩)] w
   fun r w'=>r = .returned (.int .i64 n)∧PInv w0 g (max K e) w'∧OnlyAt g w w':=by
 refine Calls.mono (part2_c 276 x y n e K g w fnNear (near_v x y n e H.out) (h.blk.cell rfl) (h.blk.frozen 0)) ?_
 rintro r w' ⟨rfl,w1,hb,rfl⟩
 have ho:OnlyAt g w (w1.setCell ⟨g,0,none⟩ (.int .i64 (max K e))):=(OnlyAt.of_below hb).setCell 0 _
 exact ⟨rfl,⟨h.lt,h.only.trans ho,((h.blk.keep hb).setCell_same 0 _).of_eq rfl⟩,ho⟩
theorem ell_walk (a0 a1 a2 a3 a4 a5 a6:WI) (d x y lv sq p q r:WI) (HD:Hid ((a0.mul a2).sub (a1.mul a1)=d)) (HX:Hid ((a2.mul a3).sub (a1.mul a4)=x)) (HY:Hid ((a0.mul a4).sub (a1.mul a3)=y)) (HL:Hid (levW a0 a1 a2 a3 a4 a5 a6 d=lv)) (HS:Hid (d.mul d=sq)) (HP:Hid (lv.mul a2=p)) (HQ:Hid (lv.mul a0=q)) (HRR:Hid ((lv.mul a1).neg=r))
  (HV:Hid (overB [a0,a1,a2,a3,a4,a5,a6]=false)) (HW:Hid (overB [d,x,y,lv,sq,p,q,r]=false)) (F:El × Int) (HT1:Hid (a0.sign≤0∨d.sign≤0→F=(El.zero,1))) (HT2:Hid (0<a0.sign→0<d.sign→lv.sign<0→F=(El.zero,3))) (cx cy ea eb ed k1 k2 k3 k4 k5:Int) (N1:Hid (nearV x d=(cx,k1))) (N2:Hid (nearV y d=(cy,k2))) (N3:Hid (ceilV p sq=(ea,k3))) (N4:Hid (ceilV q sq=(ed,k4))) (N5:Hid (floorV r sq=(eb,k5))) (HT3:Hid (0<a0.sign→0<d.sign→0≤lv.sign→F=ellEnd cx cy ea eb ed (max (max (max (max (max 0 k1) k2) k3) k4) k5))) (w:World) :
  Calls Tryz.prog 214 #[.agg (blk [a0,a1,a2,a3,a4,a5,a6])] w fun e w'=>e = .returned (.tuple #[elV F.1,.int .i64 F.2])∧Below w.heap.size w w':=by
 go_enter Tryz.func214,Tryz.ntmps214
 go_wp2_with fail
 obtain ⟨wc,hw3⟩:∃ w3,w3=(w.alloc (Obj.cells (blk [a0,a1,a2,a3,a4,a5,a6]) 225)).alloc (Obj.cells #[.int .i64 0,.int .i64 0,.int .i64 0,.int .i64 0,.int .i64 0] 35):=⟨_,rfl⟩
 rw [← hw3]
 have HI:Hid (Blk wc w.heap.size (blk [a0,a1,a2,a3,a4,a5,a6]) 225):=by rw [hw3];exact (Blk.new _ _ _).alloc _
 have HR:Hid (Blk wc (w.heap.size+1) #[.int .i64 0,.int .i64 0,.int .i64 0,.int .i64 0,.int .i64 0] 35):=by rw [hw3];exact Blk.new' _ _ _ (by simp)
 have hbw:Below w.heap.size w wc:=by rw [hw3];exact below_byR
 clear hw3
 go_cut [4] from 5 (fun s4 we=>∃ g4,s4 = .pointer (some ⟨g4,0,none⟩)∧w.heap.size≤g4∧Hid (we.row? g4 0 18=some ((a0.mul a2).sub (a1.mul a1)).cells)∧Hid (Below wc.heap.size wc we))
 case first =>
  have i0:=@inw_row _ _ _ _ _ ((HI.out.row? 0 18 (by simp)).trans (congrArg some (blk_x0 _ _)))
  have i1:=@inw_row _ _ _ _ _ ((HI.out.row? 18 18 (by simp)).trans (congrArg some (blk_x1 _ _ _)))
  have i2:=@inw_row _ _ _ _ _ ((HI.out.row? 36 18 (by simp)).trans (congrArg some (blk_x2 _ _ _ _)))
  refine wp_region_fresh' 12 (fun k=>match k with|11=>some ⟨.cells (cellsI false false 0) 153,fun g => .pointer (some ⟨g,0,none⟩)⟩|_=>none) (fun _=>[]) (by kernel_rfl) (by kernel_rfl) ?_;refine ex_list ?_;apply Exists.intro;refine ex_list ?_;apply Exists.intro;refine ex_list ?_;apply Exists.intro;refine ex_list ?_;apply Exists.intro;refine ex_list ?_;apply Exists.intro;refine ex_list ?_;apply Exists.intro;refine ex_list ?_;apply Exists.intro;refine ex_list ?_;apply Exists.intro;refine ex_list ?_;apply Exists.intro;refine ex_list ?_;apply Exists.intro;refine ex_list ?_;apply Exists.intro;refine ex_list ⟨undef,?_⟩;refine ⟨[],fun gg NN hN=>?_⟩;simp only [List.take_succ_cons,List.take_zero,List.drop_succ_cons,List.drop_zero];(repeat (first|(refine lexF_quiet rfl ?_;go_big_quiet_step (first|exact rfl|(first|(go_at_call 153;exact calls_in (mul_I _ _ _))|(go_at_call 85;exact calls_in (sub_I _ _ _))));refine wpQuiet_nil ⟨rfl,?_⟩)|(refine lexF_fresh _ (by rfl) (by rfl) ?hex ?_;(case hex=>(intro wx;first|(go_simp;done)|(go_simp;rfl)));simp only [Act.put,List.setIfInBounds_toArray,List.set_cons_succ,List.set_cons_zero])))
  refine lexF_nil ?_
  intro wn hbn' hh hd
  have hbn:Below wc.heap.size wc wn:=hbn'
  obtain ⟨l4,e4⟩:=hh 11 _ (by decide) rfl
  have G4:Hid (Blk wn (gg 11) (cellsI false false 0) 153):=e4
  have hp4:(wn).put? (gg 11) 0 ((a0.mul a2).sub (a1.mul a1)).cells=some ((wn).putRow (gg 11) 0 ((a0.mul a2).sub (a1.mul a1)).cells):=(G4.out).put? 0 _ (by simp) (by simp)
  clear hh hd hbn' e4 i0 i1 i2
  go_wp2_with fail
  go_meet
  refine ⟨gg 11,rfl,Nat.le_trans hbw.size l4,?_,(Below_putRow hbn l4 _ _)⟩
  ·show _=_;rw [(((G4.out).putRow_same 0 ((a0.mul a2).sub (a1.mul a1)).cells)).row? 0 18 (by simp)];simp
 case rest =>
  obtain ⟨g4,rfl,l4,r4,HBN⟩:=hcut
  have hbn:=HBN.out
  have hbw2:=Below.trans hbw (hbn.mono hbw.size)
  clear hbw
  have hbw:=hbw2
  clear hbw2
  have HI2:=Lib.hid (HI.out.keep hbn)
  clear HI
  have HI:=HI2
  clear HI2
  have HR2:=Lib.hid (HR.out.keep hbn)
  clear HR
  have HR:=HR2
  clear HR2
  clear hbn HBN
  rw [HD.out] at r4
  go_wp2_with fail
  go_cut [5] from 6 (fun s5 we=>∃ g5,s5 = .pointer (some ⟨g5,0,none⟩)∧w.heap.size≤g5∧Hid (we.row? g5 0 18=some ((a2.mul a3).sub (a1.mul a4)).cells)∧Hid (Below wc.heap.size wc we))
  case first =>
   have i1:=@inw_row _ _ _ _ _ ((HI.out.row? 18 18 (by simp)).trans (congrArg some (blk_x1 _ _ _)))
   have i2:=@inw_row _ _ _ _ _ ((HI.out.row? 36 18 (by simp)).trans (congrArg some (blk_x2 _ _ _ _)))
   have i3:=@inw_row _ _ _ _ _ ((HI.out.row? 54 18 (by simp)).trans (congrArg some (blk_x3 _ _ _ _ _)))
   have i4:=@inw_row _ _ _ _ _ ((HI.out.row? 72 18 (by simp)).trans (congrArg some (blk_x4 _ _ _ _ _ _)))
   refine wp_region_fresh' 12 (fun k=>match k with|11=>some ⟨.cells (cellsI false false 0) 153,fun g => .pointer (some ⟨g,0,none⟩)⟩|_=>none) (fun _=>[]) (by kernel_rfl) (by kernel_rfl) ?_;refine ex_list ?_;apply Exists.intro;refine ex_list ?_;apply Exists.intro;refine ex_list ?_;apply Exists.intro;refine ex_list ?_;apply Exists.intro;refine ex_list ?_;apply Exists.intro;refine ex_list ?_;apply Exists.intro;refine ex_list ?_;apply Exists.intro;refine ex_list ?_;apply Exists.intro;refine ex_list ?_;apply Exists.intro;refine ex_list ?_;apply Exists.intro;refine ex_list ?_;apply Exists.intro;refine ex_list ⟨undef,?_⟩;refine ⟨[],fun gg NN hN=>?_⟩;simp only [List.take_succ_cons,List.take_zero,List.drop_succ_cons,List.drop_zero];(repeat (first|(refine lexF_quiet rfl ?_;go_big_quiet_step (first|exact rfl|(first|(go_at_call 153;exact calls_in (mul_I _ _ _))|(go_at_call 85;exact calls_in (sub_I _ _ _))));refine wpQuiet_nil ⟨rfl,?_⟩)|(refine lexF_fresh _ (by rfl) (by rfl) ?hex ?_;(case hex=>(intro wx;first|(go_simp;done)|(go_simp;rfl)));simp only [Act.put,List.setIfInBounds_toArray,List.set_cons_succ,List.set_cons_zero])))
   refine lexF_nil ?_
   intro wn hbn' hh hd
   have hbn:Below wc.heap.size wc wn:=hbn'
   obtain ⟨l5,e5⟩:=hh 11 _ (by decide) rfl
   have G5:Hid (Blk wn (gg 11) (cellsI false false 0) 153):=e5
   have hp5:(wn).put? (gg 11) 0 ((a2.mul a3).sub (a1.mul a4)).cells=some ((wn).putRow (gg 11) 0 ((a2.mul a3).sub (a1.mul a4)).cells):=(G5.out).put? 0 _ (by simp) (by simp)
   clear hh hd hbn' e5 i1 i2 i3 i4
   go_wp2_with fail
   go_meet
   refine ⟨gg 11,rfl,Nat.le_trans hbw.size l5,?_,(Below_putRow hbn l5 _ _)⟩
   ·show _=_;rw [(((G5.out).putRow_same 0 ((a2.mul a3).sub (a1.mul a4)).cells)).row? 0 18 (by simp)];simp
  case rest =>
   obtain ⟨g5,rfl,l5,r5,HBN⟩:=hcut
   have hbn:=HBN.out
   have hbw2:=Below.trans hbw (hbn.mono hbw.size)
   clear hbw
   have hbw:=hbw2
   clear hbw2
   have HI2:=Lib.hid (HI.out.keep hbn)
   clear HI
   have HI:=HI2
   clear HI2
   have r4:=Lib.hid ((Below.row? hbn g4 0 18 (row_lt r4.out)).trans r4.out)
   have HR2:=Lib.hid (HR.out.keep hbn)
   clear HR
   have HR:=HR2
   clear HR2
   clear hbn HBN
   rw [HX.out] at r5
   go_wp2_with fail
   go_cut [6] from 7 (fun s6 we=>∃ g6,s6 = .pointer (some ⟨g6,0,none⟩)∧w.heap.size≤g6∧Hid (we.row? g6 0 18=some ((a0.mul a4).sub (a1.mul a3)).cells)∧Hid (Below wc.heap.size wc we))
   case first =>
    have i0:=@inw_row _ _ _ _ _ ((HI.out.row? 0 18 (by simp)).trans (congrArg some (blk_x0 _ _)))
    have i1:=@inw_row _ _ _ _ _ ((HI.out.row? 18 18 (by simp)).trans (congrArg some (blk_x1 _ _ _)))
    have i3:=@inw_row _ _ _ _ _ ((HI.out.row? 54 18 (by simp)).trans (congrArg some (blk_x3 _ _ _ _ _)))
    have i4:=@inw_row _ _ _ _ _ ((HI.out.row? 72 18 (by simp)).trans (congrArg some (blk_x4 _ _ _ _ _ _)))
    refine wp_region_fresh' 12 (fun k=>match k with|11=>some ⟨.cells (cellsI false false 0) 153,fun g => .pointer (some ⟨g,0,none⟩)⟩|_=>none) (fun _=>[]) (by kernel_rfl) (by kernel_rfl) ?_;refine ex_list ?_;apply Exists.intro;refine ex_list ?_;apply Exists.intro;refine ex_list ?_;apply Exists.intro;refine ex_list ?_;apply Exists.intro;refine ex_list ?_;apply Exists.intro;refine ex_list ?_;apply Exists.intro;refine ex_list ?_;apply Exists.intro;refine ex_list ?_;apply Exists.intro;refine ex_list ?_;apply Exists.intro;refine ex_list ?_;apply Exists.intro;refine ex_list ?_;apply Exists.intro;refine ex_list ⟨undef,?_⟩;refine ⟨[],fun gg NN hN=>?_⟩;simp only [List.take_succ_cons,List.take_zero,List.drop_succ_cons,List.drop_zero];(repeat (first|(refine lexF_quiet rfl ?_;go_big_quiet_step (first|exact rfl|(first|(go_at_call 153;exact calls_in (mul_I _ _ _))|(go_at_call 85;exact calls_in (sub_I _ _ _))));refine wpQuiet_nil ⟨rfl,?_⟩)|(refine lexF_fresh _ (by rfl) (by rfl) ?hex ?_;(case hex=>(intro wx;first|(go_simp;done)|(go_simp;rfl)));simp only [Act.put,List.setIfInBounds_toArray,List.set_cons_succ,List.set_cons_zero])))
    refine lexF_nil ?_
    intro wn hbn' hh hd
    have hbn:Below wc.heap.size wc wn:=hbn'
    obtain ⟨l6,e6⟩:=hh 11 _ (by decide) rfl
    have G6:Hid (Blk wn (gg 11) (cellsI false false 0) 153):=e6
    have hp6:(wn).put? (gg 11) 0 ((a0.mul a4).sub (a1.mul a3)).cells=some ((wn).putRow (gg 11) 0 ((a0.mul a4).sub (a1.mul a3)).cells):=(G6.out).put? 0 _ (by simp) (by simp)
    clear hh hd hbn' e6 i0 i1 i3 i4
    go_wp2_with fail
    go_meet
    refine ⟨gg 11,rfl,Nat.le_trans hbw.size l6,?_,(Below_putRow hbn l6 _ _)⟩
    ·show _=_;rw [(((G6.out).putRow_same 0 ((a0.mul a4).sub (a1.mul a3)).cells)).row? 0 18 (by simp)];simp
   case rest =>
    obtain ⟨g6,rfl,l6,r6,HBN⟩:=hcut
    have hbn:=HBN.out
    have hbw2:=Below.trans hbw (hbn.mono hbw.size)
    clear hbw
    have hbw:=hbw2
    clear hbw2
    have HI2:=Lib.hid (HI.out.keep hbn)
    clear HI
    have HI:=HI2
    clear HI2
    have r4:=Lib.hid ((Below.row? hbn g4 0 18 (row_lt r4.out)).trans r4.out)
    have r5:=Lib.hid ((Below.row? hbn g5 0 18 (row_lt r5.out)).trans r5.out)
    have HR2:=Lib.hid (HR.out.keep hbn)
    clear HR
    have HR:=HR2
    clear HR2
    clear hbn HBN
    rw [HY.out] at r6
    go_wp2_with fail
    go_cut [7,8] from 9 (fun s7 s8 we=>∃ g7 g8,s7 = .pointer (some ⟨g7,0,none⟩)∧s8 = .pointer (some ⟨g8,0,none⟩)∧w.heap.size≤g7∧w.heap.size≤g8∧Hid (we.row? g7 0 18=some (levW a0 a1 a2 a3 a4 a5 a6 d).cells)∧Hid (we.row? g8 0 18=some (d.mul d).cells)∧Hid (Below wc.heap.size wc we))
    case first =>
     have iw:=@inw_row _ _ _ _ _ (HI.out.row?_all 126 (by simp))
     have k4:=@inw_row _ _ _ _ _ r4.out
     refine wp_region_fresh' 8 (fun k=>match k with|6=>some ⟨.cells (cellsI false false 0) 153,fun g => .pointer (some ⟨g,0,none⟩)⟩|7=>some ⟨.cells (cellsI false false 0) 153,fun g => .pointer (some ⟨g,0,none⟩)⟩|_=>none) (fun _=>[]) (by kernel_rfl) (by kernel_rfl) ?_;refine ex_list ?_;apply Exists.intro;refine ex_list ?_;apply Exists.intro;refine ex_list ?_;apply Exists.intro;refine ex_list ?_;apply Exists.intro;refine ex_list ?_;apply Exists.intro;refine ex_list ?_;apply Exists.intro;refine ex_list ⟨undef,?_⟩;refine ex_list ⟨undef,?_⟩;refine ⟨[],fun gg NN hN=>?_⟩;simp only [List.take_succ_cons,List.take_zero,List.drop_succ_cons,List.drop_zero];(repeat (first|(refine lexF_quiet rfl ?_;go_big_quiet_step (first|exact rfl|(first|(go_at_call 153;exact calls_in (mul_I _ _ _))|(go_at_call 272;exact calls_in (level_c _ _ _ _ _ _ _ _ _))));refine wpQuiet_nil ⟨rfl,?_⟩)|(refine lexF_fresh _ (by rfl) (by rfl) ?hex ?_;(case hex=>(intro wx;first|(go_simp;done)|(go_simp;rfl)));simp only [Act.put,List.setIfInBounds_toArray,List.set_cons_succ,List.set_cons_zero])))
     refine lexF_nil ?_
     intro wn hbn' hh hd
     have hbn:Below wc.heap.size wc wn:=hbn'
     obtain ⟨l7,e7⟩:=hh 6 _ (by decide) rfl
     obtain ⟨l8,e8⟩:=hh 7 _ (by decide) rfl
     have n7_8:gg 6≠gg 7:=hd 6 7 (by decide) (by decide) rfl rfl (by decide)
     have G7:Hid (Blk wn (gg 6) (cellsI false false 0) 153):=e7
     have G8:Hid (Blk wn (gg 7) (cellsI false false 0) 153):=e8
     have hp7:(wn).put? (gg 6) 0 (levW a0 a1 a2 a3 a4 a5 a6 d).cells=some ((wn).putRow (gg 6) 0 (levW a0 a1 a2 a3 a4 a5 a6 d).cells):=(G7.out).put? 0 _ (by simp) (by simp)
     have hp8:((wn).putRow (gg 6) 0 (levW a0 a1 a2 a3 a4 a5 a6 d).cells).put? (gg 7) 0 (d.mul d).cells=some (((wn).putRow (gg 6) 0 (levW a0 a1 a2 a3 a4 a5 a6 d).cells).putRow (gg 7) 0 (d.mul d).cells):=(((G8.out).putRow_other (Ne.symm n7_8) 0 (levW a0 a1 a2 a3 a4 a5 a6 d).cells)).put? 0 _ (by simp) (by simp)
     clear hh hd hbn' e7 e8  k4
     go_wp2_with fail
     go_meet
     refine ⟨gg 6,gg 7,rfl,rfl,Nat.le_trans hbw.size l7,Nat.le_trans hbw.size l8,?_,?_,(Below_putRow (Below_putRow hbn l7 _ _) l8 _ _)⟩
     ·show _=_;rw [(((((G7.out).putRow_same 0 (levW a0 a1 a2 a3 a4 a5 a6 d).cells)).putRow_other n7_8 0 (d.mul d).cells)).row? 0 18 (by simp)];simp
     ·show _=_;rw [(((((G8.out).putRow_other (Ne.symm n7_8) 0 (levW a0 a1 a2 a3 a4 a5 a6 d).cells)).putRow_same 0 (d.mul d).cells)).row? 0 18 (by simp)];simp
    case rest =>
     obtain ⟨g7,g8,rfl,rfl,l7,l8,r7,r8,HBN⟩:=hcut
     have hbn:=HBN.out
     have hbw2:=Below.trans hbw (hbn.mono hbw.size)
     clear hbw
     have hbw:=hbw2
     clear hbw2
     have HI2:=Lib.hid (HI.out.keep hbn)
     clear HI
     have HI:=HI2
     clear HI2
     have r4:=Lib.hid ((Below.row? hbn g4 0 18 (row_lt r4.out)).trans r4.out)
     have r5:=Lib.hid ((Below.row? hbn g5 0 18 (row_lt r5.out)).trans r5.out)
     have r6:=Lib.hid ((Below.row? hbn g6 0 18 (row_lt r6.out)).trans r6.out)
     have HR2:=Lib.hid (HR.out.keep hbn)
     clear HR
     have HR:=HR2
     clear HR2
     clear hbn HBN
     rw [HL.out] at r7
     rw [HS.out] at r8
     go_wp2_with fail
     go_cut [9,10,11] from 12 (fun s9 s10 s11 we=>∃ g9 g10 g11,s9 = .pointer (some ⟨g9,0,none⟩)∧s10 = .pointer (some ⟨g10,0,none⟩)∧s11 = .pointer (some ⟨g11,0,none⟩)∧w.heap.size≤g9∧w.heap.size≤g10∧w.heap.size≤g11∧Hid (we.row? g9 0 18=some (lv.mul a2).cells)∧Hid (we.row? g10 0 18=some (lv.mul a0).cells)∧Hid (we.row? g11 0 18=some ((lv.mul a1).neg).cells)∧Hid (Below wc.heap.size wc we))
     case first =>
      have i0:=@inw_row _ _ _ _ _ ((HI.out.row? 0 18 (by simp)).trans (congrArg some (blk_x0 _ _)))
      have i1:=@inw_row _ _ _ _ _ ((HI.out.row? 18 18 (by simp)).trans (congrArg some (blk_x1 _ _ _)))
      have i2:=@inw_row _ _ _ _ _ ((HI.out.row? 36 18 (by simp)).trans (congrArg some (blk_x2 _ _ _ _)))
      have k7:=@inw_row _ _ _ _ _ r7.out
      refine wp_region_fresh' 16 (fun k=>match k with|13=>some ⟨.cells (cellsI false false 0) 153,fun g => .pointer (some ⟨g,0,none⟩)⟩|14=>some ⟨.cells (cellsI false false 0) 153,fun g => .pointer (some ⟨g,0,none⟩)⟩|15=>some ⟨.cells (cellsI false false 0) 153,fun g => .pointer (some ⟨g,0,none⟩)⟩|_=>none) (fun _=>[]) (by kernel_rfl) (by kernel_rfl) ?_;refine ex_list ?_;apply Exists.intro;refine ex_list ?_;apply Exists.intro;refine ex_list ?_;apply Exists.intro;refine ex_list ?_;apply Exists.intro;refine ex_list ?_;apply Exists.intro;refine ex_list ?_;apply Exists.intro;refine ex_list ?_;apply Exists.intro;refine ex_list ?_;apply Exists.intro;refine ex_list ?_;apply Exists.intro;refine ex_list ?_;apply Exists.intro;refine ex_list ?_;apply Exists.intro;refine ex_list ?_;apply Exists.intro;refine ex_list ?_;apply Exists.intro;refine ex_list ⟨undef,?_⟩;refine ex_list ⟨undef,?_⟩;refine ex_list ⟨undef,?_⟩;refine ⟨[],fun gg NN hN=>?_⟩;simp only [List.take_succ_cons,List.take_zero,List.drop_succ_cons,List.drop_zero];(repeat (first|(refine lexF_quiet rfl ?_;go_big_quiet_step (first|exact rfl|(first|(go_at_call 153;exact calls_in (mul_I _ _ _))|(go_at_call 156;exact calls_in (neg_I _ _))));refine wpQuiet_nil ⟨rfl,?_⟩)|(refine lexF_fresh _ (by rfl) (by rfl) ?hex ?_;(case hex=>(intro wx;first|(go_simp;done)|(go_simp;rfl)));simp only [Act.put,List.setIfInBounds_toArray,List.set_cons_succ,List.set_cons_zero])))
      refine lexF_nil ?_
      intro wn hbn' hh hd
      have hbn:Below wc.heap.size wc wn:=hbn'
      obtain ⟨l9,e9⟩:=hh 13 _ (by decide) rfl
      obtain ⟨l10,e10⟩:=hh 14 _ (by decide) rfl
      obtain ⟨l11,e11⟩:=hh 15 _ (by decide) rfl
      have n9_10:gg 13≠gg 14:=hd 13 14 (by decide) (by decide) rfl rfl (by decide)
      have n9_11:gg 13≠gg 15:=hd 13 15 (by decide) (by decide) rfl rfl (by decide)
      have n10_11:gg 14≠gg 15:=hd 14 15 (by decide) (by decide) rfl rfl (by decide)
      have G9:Hid (Blk wn (gg 13) (cellsI false false 0) 153):=e9
      have G10:Hid (Blk wn (gg 14) (cellsI false false 0) 153):=e10
      have G11:Hid (Blk wn (gg 15) (cellsI false false 0) 153):=e11
      have hp9:(wn).put? (gg 13) 0 (lv.mul a2).cells=some ((wn).putRow (gg 13) 0 (lv.mul a2).cells):=(G9.out).put? 0 _ (by simp) (by simp)
      have hp10:((wn).putRow (gg 13) 0 (lv.mul a2).cells).put? (gg 14) 0 (lv.mul a0).cells=some (((wn).putRow (gg 13) 0 (lv.mul a2).cells).putRow (gg 14) 0 (lv.mul a0).cells):=(((G10.out).putRow_other (Ne.symm n9_10) 0 (lv.mul a2).cells)).put? 0 _ (by simp) (by simp)
      have hp11:(((wn).putRow (gg 13) 0 (lv.mul a2).cells).putRow (gg 14) 0 (lv.mul a0).cells).put? (gg 15) 0 ((lv.mul a1).neg).cells=some ((((wn).putRow (gg 13) 0 (lv.mul a2).cells).putRow (gg 14) 0 (lv.mul a0).cells).putRow (gg 15) 0 ((lv.mul a1).neg).cells):=(((((G11.out).putRow_other (Ne.symm n9_11) 0 (lv.mul a2).cells)).putRow_other (Ne.symm n10_11) 0 (lv.mul a0).cells)).put? 0 _ (by simp) (by simp)
      clear hh hd hbn' e9 e10 e11 i0 i1 i2 k7
      go_wp2_with fail
      go_meet
      refine ⟨gg 13,gg 14,gg 15,rfl,rfl,rfl,Nat.le_trans hbw.size l9,Nat.le_trans hbw.size l10,Nat.le_trans hbw.size l11,?_,?_,?_,(Below_putRow (Below_putRow (Below_putRow hbn l9 _ _) l10 _ _) l11 _ _)⟩
      ·show _=_;rw [(((((((G9.out).putRow_same 0 (lv.mul a2).cells)).putRow_other n9_10 0 (lv.mul a0).cells)).putRow_other n9_11 0 ((lv.mul a1).neg).cells)).row? 0 18 (by simp)];simp
      ·show _=_;rw [(((((((G10.out).putRow_other (Ne.symm n9_10) 0 (lv.mul a2).cells)).putRow_same 0 (lv.mul a0).cells)).putRow_other n10_11 0 ((lv.mul a1).neg).cells)).row? 0 18 (by simp)];simp
      ·show _=_;rw [(((((((G11.out).putRow_other (Ne.symm n9_11) 0 (lv.mul a2).cells)).putRow_other (Ne.symm n10_11) 0 (lv.mul a0).cells)).putRow_same 0 ((lv.mul a1).neg).cells)).row? 0 18 (by simp)];simp
     case rest =>
      obtain ⟨g9,g10,g11,rfl,rfl,rfl,l9,l10,l11,r9,r10,r11,HBN⟩:=hcut
      have hbn:=HBN.out
      have hbw2:=Below.trans hbw (hbn.mono hbw.size)
      clear hbw
      have hbw:=hbw2
      clear hbw2
      have HI2:=Lib.hid (HI.out.keep hbn)
      clear HI
      have HI:=HI2
      clear HI2
      have r4:=Lib.hid ((Below.row? hbn g4 0 18 (row_lt r4.out)).trans r4.out)
      have r5:=Lib.hid ((Below.row? hbn g5 0 18 (row_lt r5.out)).trans r5.out)
      have r6:=Lib.hid ((Below.row? hbn g6 0 18 (row_lt r6.out)).trans r6.out)
      have r7:=Lib.hid ((Below.row? hbn g7 0 18 (row_lt r7.out)).trans r7.out)
      have r8:=Lib.hid ((Below.row? hbn g8 0 18 (row_lt r8.out)).trans r8.out)
      have HR2:=Lib.hid (HR.out.keep hbn)
      clear HR
      have HR:=HR2
      clear HR2
      clear hbn HBN
      rw [HP.out] at r9
      rw [HQ.out] at r10
      rw [HRR.out] at r11
      have y0:=HI.out.lt
      have y1:=HR.out.lt
      have y4:=row_lt r4.out
      have y5:=row_lt r5.out
      have y6:=row_lt r6.out
      have y7:=row_lt r7.out
      have y8:=row_lt r8.out
      have y9:=row_lt r9.out
      have y10:=row_lt r10.out
      have y11:=row_lt r11.out
      have s4:=r4.out
      have s5:=r5.out
      have s6:=r6.out
      have s7:=r7.out
      have s8:=r8.out
      have s9:=r9.out
      have s10:=r10.out
      have s11:=r11.out
      have iw:=HI.out.row?_all 126 (by simp)
      have i0:=(HI.out.row? 0 18 (by simp)).trans (congrArg some (blk_x0 _ _))
      have FR:wc.fits (w.heap.size+1) 5=true:=by have h:=HR.out;unfold Blk at h;unfold World.fits;rw [h];rfl
      have FC:=fun i=>HR.out.at i
      have FZ:=fun i=>HR.out.frozen i
      go_wp2_with fail
      refine (any_c _ _ _ _ _ _ _ HV.out _).mono ?_;rintro e w1 ⟨rfl,hb1⟩;have z_w1:=hb1.size;(try simp at z_w1);obtain ⟨yw1aa,cw1aa,fw1aa,rw1aa,tw1aa,pw1aa⟩:=bq hb1 (w.heap.size);obtain ⟨yw1ab,cw1ab,fw1ab,rw1ab,tw1ab,pw1ab⟩:=bq hb1 (w.heap.size+1);obtain ⟨y_w1_g4,c_w1_g4,f_w1_g4,r_w1_g4,t_w1_g4,p_w1_g4⟩:=bq hb1 (g4);obtain ⟨y_w1_g5,c_w1_g5,f_w1_g5,r_w1_g5,t_w1_g5,p_w1_g5⟩:=bq hb1 (g5);obtain ⟨y_w1_g6,c_w1_g6,f_w1_g6,r_w1_g6,t_w1_g6,p_w1_g6⟩:=bq hb1 (g6);obtain ⟨y_w1_g7,c_w1_g7,f_w1_g7,r_w1_g7,t_w1_g7,p_w1_g7⟩:=bq hb1 (g7);obtain ⟨y_w1_g8,c_w1_g8,f_w1_g8,r_w1_g8,t_w1_g8,p_w1_g8⟩:=bq hb1 (g8);obtain ⟨y_w1_g9,c_w1_g9,f_w1_g9,r_w1_g9,t_w1_g9,p_w1_g9⟩:=bq hb1 (g9);obtain ⟨y_w1_g10,c_w1_g10,f_w1_g10,r_w1_g10,t_w1_g10,p_w1_g10⟩:=bq hb1 (g10);obtain ⟨y_w1_g11,c_w1_g11,f_w1_g11,r_w1_g11,t_w1_g11,p_w1_g11⟩:=bq hb1 (g11)
      go_wp2_with fail
      refine (over_c [d,x,y,lv,sq,p,q,r] _ _ (by simp) HW.out (Blk.new' _ _ _ (by simp))).mono ?_;rintro e w2 ⟨rfl,hb2⟩;have z_w2:=hb2.size;(try simp at z_w2);obtain ⟨yw2aa,cw2aa,fw2aa,rw2aa,tw2aa,pw2aa⟩:=bq hb2 (w.heap.size);obtain ⟨yw2ab,cw2ab,fw2ab,rw2ab,tw2ab,pw2ab⟩:=bq hb2 (w.heap.size+1);obtain ⟨y_w2_g4,c_w2_g4,f_w2_g4,r_w2_g4,t_w2_g4,p_w2_g4⟩:=bq hb2 (g4);obtain ⟨y_w2_g5,c_w2_g5,f_w2_g5,r_w2_g5,t_w2_g5,p_w2_g5⟩:=bq hb2 (g5);obtain ⟨y_w2_g6,c_w2_g6,f_w2_g6,r_w2_g6,t_w2_g6,p_w2_g6⟩:=bq hb2 (g6);obtain ⟨y_w2_g7,c_w2_g7,f_w2_g7,r_w2_g7,t_w2_g7,p_w2_g7⟩:=bq hb2 (g7);obtain ⟨y_w2_g8,c_w2_g8,f_w2_g8,r_w2_g8,t_w2_g8,p_w2_g8⟩:=bq hb2 (g8);obtain ⟨y_w2_g9,c_w2_g9,f_w2_g9,r_w2_g9,t_w2_g9,p_w2_g9⟩:=bq hb2 (g9);obtain ⟨y_w2_g10,c_w2_g10,f_w2_g10,r_w2_g10,t_w2_g10,p_w2_g10⟩:=bq hb2 (g10);obtain ⟨y_w2_g11,c_w2_g11,f_w2_g11,r_w2_g11,t_w2_g11,p_w2_g11⟩:=bq hb2 (g11)
      go_wp2_with fail
      refine (sign_I _ _).mono ?_;rintro e w3 ⟨rfl,hb3⟩;have z_w3:=hb3.size;(try simp at z_w3);obtain ⟨yw3aa,cw3aa,fw3aa,rw3aa,tw3aa,pw3aa⟩:=bq hb3 (w.heap.size);obtain ⟨yw3ab,cw3ab,fw3ab,rw3ab,tw3ab,pw3ab⟩:=bq hb3 (w.heap.size+1);obtain ⟨y_w3_g4,c_w3_g4,f_w3_g4,r_w3_g4,t_w3_g4,p_w3_g4⟩:=bq hb3 (g4);obtain ⟨y_w3_g5,c_w3_g5,f_w3_g5,r_w3_g5,t_w3_g5,p_w3_g5⟩:=bq hb3 (g5);obtain ⟨y_w3_g6,c_w3_g6,f_w3_g6,r_w3_g6,t_w3_g6,p_w3_g6⟩:=bq hb3 (g6);obtain ⟨y_w3_g7,c_w3_g7,f_w3_g7,r_w3_g7,t_w3_g7,p_w3_g7⟩:=bq hb3 (g7);obtain ⟨y_w3_g8,c_w3_g8,f_w3_g8,r_w3_g8,t_w3_g8,p_w3_g8⟩:=bq hb3 (g8);obtain ⟨y_w3_g9,c_w3_g9,f_w3_g9,r_w3_g9,t_w3_g9,p_w3_g9⟩:=bq hb3 (g9);obtain ⟨y_w3_g10,c_w3_g10,f_w3_g10,r_w3_g10,t_w3_g10,p_w3_g10⟩:=bq hb3 (g10);obtain ⟨y_w3_g11,c_w3_g11,f_w3_g11,r_w3_g11,t_w3_g11,p_w3_g11⟩:=bq hb3 (g11)
      have hbc:Below wc.heap.size wc w3:=below_byR
      have hbe:Below w.heap.size w w3:=Below.trans hbw (hbc.mono hbw.size)
      clear hb1 hb2 hb3
      by_cases h1:a0.sign≤0
      ·have E:=Lib.hid (HT1.out (.inl h1))
       go_wp2_with fail
       exact bodyPost_row_t 5 #[.int .i64 0,.int .i64 0,.int .i64 0,.int .i64 0,.int .i64 0] (.int .i64 1) rfl rfl rfl rfl Tryz.underlying35 rfl (by kernel_rfl) (rc5 (by go_simp) (by go_simp) (by go_simp) (by go_simp) (by go_simp)) ⟨by rw [E.out];rfl,below_byR⟩
      ·have h1':0<a0.sign:=by omega
       go_wp2_with fail
       refine (sign_I _ _).mono ?_;rintro e w4 ⟨rfl,hb4⟩;have z_w4:=hb4.size;(try simp at z_w4);obtain ⟨yw4aa,cw4aa,fw4aa,rw4aa,tw4aa,pw4aa⟩:=bq hb4 (w.heap.size);obtain ⟨yw4ab,cw4ab,fw4ab,rw4ab,tw4ab,pw4ab⟩:=bq hb4 (w.heap.size+1);obtain ⟨y_w4_g4,c_w4_g4,f_w4_g4,r_w4_g4,t_w4_g4,p_w4_g4⟩:=bq hb4 (g4);obtain ⟨y_w4_g5,c_w4_g5,f_w4_g5,r_w4_g5,t_w4_g5,p_w4_g5⟩:=bq hb4 (g5);obtain ⟨y_w4_g6,c_w4_g6,f_w4_g6,r_w4_g6,t_w4_g6,p_w4_g6⟩:=bq hb4 (g6);obtain ⟨y_w4_g7,c_w4_g7,f_w4_g7,r_w4_g7,t_w4_g7,p_w4_g7⟩:=bq hb4 (g7);obtain ⟨y_w4_g8,c_w4_g8,f_w4_g8,r_w4_g8,t_w4_g8,p_w4_g8⟩:=bq hb4 (g8);obtain ⟨y_w4_g9,c_w4_g9,f_w4_g9,r_w4_g9,t_w4_g9,p_w4_g9⟩:=bq hb4 (g9);obtain ⟨y_w4_g10,c_w4_g10,f_w4_g10,r_w4_g10,t_w4_g10,p_w4_g10⟩:=bq hb4 (g10);obtain ⟨y_w4_g11,c_w4_g11,f_w4_g11,r_w4_g11,t_w4_g11,p_w4_g11⟩:=bq hb4 (g11)
       by_cases h2:d.sign≤0
       ·have E:=Lib.hid (HT1.out (.inr h2))
        go_wp2_with fail
        exact bodyPost_row_t 5 #[.int .i64 0,.int .i64 0,.int .i64 0,.int .i64 0,.int .i64 0] (.int .i64 1) rfl rfl rfl rfl Tryz.underlying35 rfl (by kernel_rfl) (rc5 (by go_simp) (by go_simp) (by go_simp) (by go_simp) (by go_simp)) ⟨by rw [E.out];rfl,below_byR⟩
       ·have h2':0<d.sign:=by omega
        go_wp2_with fail
        refine (sign_I _ _).mono ?_;rintro e w5 ⟨rfl,hb5⟩;have z_w5:=hb5.size;(try simp at z_w5);obtain ⟨yw5aa,cw5aa,fw5aa,rw5aa,tw5aa,pw5aa⟩:=bq hb5 (w.heap.size);obtain ⟨yw5ab,cw5ab,fw5ab,rw5ab,tw5ab,pw5ab⟩:=bq hb5 (w.heap.size+1);obtain ⟨y_w5_g4,c_w5_g4,f_w5_g4,r_w5_g4,t_w5_g4,p_w5_g4⟩:=bq hb5 (g4);obtain ⟨y_w5_g5,c_w5_g5,f_w5_g5,r_w5_g5,t_w5_g5,p_w5_g5⟩:=bq hb5 (g5);obtain ⟨y_w5_g6,c_w5_g6,f_w5_g6,r_w5_g6,t_w5_g6,p_w5_g6⟩:=bq hb5 (g6);obtain ⟨y_w5_g7,c_w5_g7,f_w5_g7,r_w5_g7,t_w5_g7,p_w5_g7⟩:=bq hb5 (g7);obtain ⟨y_w5_g8,c_w5_g8,f_w5_g8,r_w5_g8,t_w5_g8,p_w5_g8⟩:=bq hb5 (g8);obtain ⟨y_w5_g9,c_w5_g9,f_w5_g9,r_w5_g9,t_w5_g9,p_w5_g9⟩:=bq hb5 (g9);obtain ⟨y_w5_g10,c_w5_g10,f_w5_g10,r_w5_g10,t_w5_g10,p_w5_g10⟩:=bq hb5 (g10);obtain ⟨y_w5_g11,c_w5_g11,f_w5_g11,r_w5_g11,t_w5_g11,p_w5_g11⟩:=bq hb5 (g11)
        by_cases h3:lv.sign<0
        ·have E:=Lib.hid (HT2.out h1' h2' h3)
         go_wp2_with fail
         exact bodyPost_row_t 5 #[.int .i64 0,.int .i64 0,.int .i64 0,.int .i64 0,.int .i64 0] (.int .i64 3) rfl rfl rfl rfl Tryz.underlying35 rfl (by kernel_rfl) (rc5 (by go_simp) (by go_simp) (by go_simp) (by go_simp) (by go_simp)) ⟨by rw [E.out];rfl,below_byR⟩
        ·have E:=Lib.hid (HT3.out h1' h2' (by omega))
         have h3':0≤lv.sign:=by omega
         go_wp2_with fail
         obtain ⟨g12,hg12⟩:∃ g,g=w5.heap.size:=⟨_,rfl⟩
         obtain ⟨w6,hw6⟩:∃ w6,w6=w5.alloc (Obj.cells #[.int .i64 0] 46):=⟨_,rfl⟩
         rw [← hw6,← hg12]
         have hb6:Below w5.heap.size w5 w6:=by rw [hw6];exact below_byR
         have z_w6:=hb6.size;(try simp at z_w6);obtain ⟨yw6aa,cw6aa,fw6aa,rw6aa,tw6aa,pw6aa⟩:=bq hb6 (w.heap.size);obtain ⟨yw6ab,cw6ab,fw6ab,rw6ab,tw6ab,pw6ab⟩:=bq hb6 (w.heap.size+1);obtain ⟨y_w6_g4,c_w6_g4,f_w6_g4,r_w6_g4,t_w6_g4,p_w6_g4⟩:=bq hb6 (g4);obtain ⟨y_w6_g5,c_w6_g5,f_w6_g5,r_w6_g5,t_w6_g5,p_w6_g5⟩:=bq hb6 (g5);obtain ⟨y_w6_g6,c_w6_g6,f_w6_g6,r_w6_g6,t_w6_g6,p_w6_g6⟩:=bq hb6 (g6);obtain ⟨y_w6_g7,c_w6_g7,f_w6_g7,r_w6_g7,t_w6_g7,p_w6_g7⟩:=bq hb6 (g7);obtain ⟨y_w6_g8,c_w6_g8,f_w6_g8,r_w6_g8,t_w6_g8,p_w6_g8⟩:=bq hb6 (g8);obtain ⟨y_w6_g9,c_w6_g9,f_w6_g9,r_w6_g9,t_w6_g9,p_w6_g9⟩:=bq hb6 (g9);obtain ⟨y_w6_g10,c_w6_g10,f_w6_g10,r_w6_g10,t_w6_g10,p_w6_g10⟩:=bq hb6 (g10);obtain ⟨y_w6_g11,c_w6_g11,f_w6_g11,r_w6_g11,t_w6_g11,p_w6_g11⟩:=bq hb6 (g11)
         have H12:Hid (Blk w6 g12 #[.int .i64 0] 46):=by rw [hw6,hg12];exact Blk.new _ _ _
         have hbd3:Below w3.heap.size w3 w6:=below_byR
         have hbd:Below wc.heap.size wc w6:=Below.trans hbc (hbd3.mono hbc.size)
         have hbf:Below w.heap.size w w6:=Below.trans hbw (hbd.mono hbw.size)
         have z12:w.heap.size≤g12:=by have:=hbe.size;have:=hb4.size;have:=hb5.size;omega
         clear hb4 hb5 hb6
         have HR6:=Lib.hid (HR.out.keep hbd)
         have t4:Hid (w6.row? g4 0 18=some d.cells):=(Below.row? hbd g4 0 18 (row_lt s4)).trans s4
         have t5:Hid (w6.row? g5 0 18=some x.cells):=(Below.row? hbd g5 0 18 (row_lt s5)).trans s5
         have t6:Hid (w6.row? g6 0 18=some y.cells):=(Below.row? hbd g6 0 18 (row_lt s6)).trans s6
         have t7:Hid (w6.row? g7 0 18=some lv.cells):=(Below.row? hbd g7 0 18 (row_lt s7)).trans s7
         have t8:Hid (w6.row? g8 0 18=some sq.cells):=(Below.row? hbd g8 0 18 (row_lt s8)).trans s8
         have t9:Hid (w6.row? g9 0 18=some p.cells):=(Below.row? hbd g9 0 18 (row_lt s9)).trans s9
         have t10:Hid (w6.row? g10 0 18=some q.cells):=(Below.row? hbd g10 0 18 (row_lt s10)).trans s10
         have t11:Hid (w6.row? g11 0 18=some r.cells):=(Below.row? hbd g11 0 18 (row_lt s11)).trans s11
         have nn6:Hid (¬ g6=g12):=by have h:=y6;have h2:=hbc.size;have h3:=z_w4;have h4:=z_w5;show ¬ _;omega
         have nn5:Hid (¬ g5=g12):=by have h:=y5;have h2:=hbc.size;have h3:=z_w4;have h4:=z_w5;show ¬ _;omega
         have nn4:Hid (¬ g4=g12):=by have h:=y4;have h2:=hbc.size;have h3:=z_w4;have h4:=z_w5;show ¬ _;omega
         have nn8:Hid (¬ g8=g12):=by have h:=y8;have h2:=hbc.size;have h3:=z_w4;have h4:=z_w5;show ¬ _;omega
         have nn9:Hid (¬ g9=g12):=by have h:=y9;have h2:=hbc.size;have h3:=z_w4;have h4:=z_w5;show ¬ _;omega
         have nn10:Hid (¬ g10=g12):=by have h:=y10;have h2:=hbc.size;have h3:=z_w4;have h4:=z_w5;show ¬ _;omega
         have nn11:Hid (¬ g11=g12):=by have h:=y11;have h2:=hbc.size;have h3:=z_w4;have h4:=z_w5;show ¬ _;omega
         have nnR:Hid (¬ w.heap.size+1=g12):=by have h2:=hbc.size;have h3:=z_w4;have h4:=z_w5;show ¬ _;omega
         clear z_w6 yw6aa cw6aa fw6aa rw6aa tw6aa pw6aa yw6ab cw6ab fw6ab rw6ab tw6ab pw6ab y_w6_g4 c_w6_g4 f_w6_g4 r_w6_g4 t_w6_g4 p_w6_g4 y_w6_g5 c_w6_g5 f_w6_g5 r_w6_g5 t_w6_g5 p_w6_g5 y_w6_g6 c_w6_g6 f_w6_g6 r_w6_g6 t_w6_g6 p_w6_g6 y_w6_g7 c_w6_g7 f_w6_g7 r_w6_g7 t_w6_g7 p_w6_g7 y_w6_g8 c_w6_g8 f_w6_g8 r_w6_g8 t_w6_g8 p_w6_g8 y_w6_g9 c_w6_g9 f_w6_g9 r_w6_g9 t_w6_g9 p_w6_g9 y_w6_g10 c_w6_g10 f_w6_g10 r_w6_g10 t_w6_g10 p_w6_g10 y_w6_g11 c_w6_g11 f_w6_g11 r_w6_g11 t_w6_g11 p_w6_g11
         clear z_w5 yw5aa cw5aa fw5aa rw5aa tw5aa pw5aa yw5ab cw5ab fw5ab rw5ab tw5ab pw5ab y_w5_g4 c_w5_g4 f_w5_g4 r_w5_g4 t_w5_g4 p_w5_g4 y_w5_g5 c_w5_g5 f_w5_g5 r_w5_g5 t_w5_g5 p_w5_g5 y_w5_g6 c_w5_g6 f_w5_g6 r_w5_g6 t_w5_g6 p_w5_g6 y_w5_g7 c_w5_g7 f_w5_g7 r_w5_g7 t_w5_g7 p_w5_g7 y_w5_g8 c_w5_g8 f_w5_g8 r_w5_g8 t_w5_g8 p_w5_g8 y_w5_g9 c_w5_g9 f_w5_g9 r_w5_g9 t_w5_g9 p_w5_g9 y_w5_g10 c_w5_g10 f_w5_g10 r_w5_g10 t_w5_g10 p_w5_g10 y_w5_g11 c_w5_g11 f_w5_g11 r_w5_g11 t_w5_g11 p_w5_g11
         clear z_w4 yw4aa cw4aa fw4aa rw4aa tw4aa pw4aa yw4ab cw4ab fw4ab rw4ab tw4ab pw4ab y_w4_g4 c_w4_g4 f_w4_g4 r_w4_g4 t_w4_g4 p_w4_g4 y_w4_g5 c_w4_g5 f_w4_g5 r_w4_g5 t_w4_g5 p_w4_g5 y_w4_g6 c_w4_g6 f_w4_g6 r_w4_g6 t_w4_g6 p_w4_g6 y_w4_g7 c_w4_g7 f_w4_g7 r_w4_g7 t_w4_g7 p_w4_g7 y_w4_g8 c_w4_g8 f_w4_g8 r_w4_g8 t_w4_g8 p_w4_g8 y_w4_g9 c_w4_g9 f_w4_g9 r_w4_g9 t_w4_g9 p_w4_g9 y_w4_g10 c_w4_g10 f_w4_g10 r_w4_g10 t_w4_g10 p_w4_g10 y_w4_g11 c_w4_g11 f_w4_g11 r_w4_g11 t_w4_g11 p_w4_g11
         clear z_w3 yw3aa cw3aa fw3aa rw3aa tw3aa pw3aa yw3ab cw3ab fw3ab rw3ab tw3ab pw3ab y_w3_g4 c_w3_g4 f_w3_g4 r_w3_g4 t_w3_g4 p_w3_g4 y_w3_g5 c_w3_g5 f_w3_g5 r_w3_g5 t_w3_g5 p_w3_g5 y_w3_g6 c_w3_g6 f_w3_g6 r_w3_g6 t_w3_g6 p_w3_g6 y_w3_g7 c_w3_g7 f_w3_g7 r_w3_g7 t_w3_g7 p_w3_g7 y_w3_g8 c_w3_g8 f_w3_g8 r_w3_g8 t_w3_g8 p_w3_g8 y_w3_g9 c_w3_g9 f_w3_g9 r_w3_g9 t_w3_g9 p_w3_g9 y_w3_g10 c_w3_g10 f_w3_g10 r_w3_g10 t_w3_g10 p_w3_g10 y_w3_g11 c_w3_g11 f_w3_g11 r_w3_g11 t_w3_g11 p_w3_g11
         clear z_w2 yw2aa cw2aa fw2aa rw2aa tw2aa pw2aa yw2ab cw2ab fw2ab rw2ab tw2ab pw2ab y_w2_g4 c_w2_g4 f_w2_g4 r_w2_g4 t_w2_g4 p_w2_g4 y_w2_g5 c_w2_g5 f_w2_g5 r_w2_g5 t_w2_g5 p_w2_g5 y_w2_g6 c_w2_g6 f_w2_g6 r_w2_g6 t_w2_g6 p_w2_g6 y_w2_g7 c_w2_g7 f_w2_g7 r_w2_g7 t_w2_g7 p_w2_g7 y_w2_g8 c_w2_g8 f_w2_g8 r_w2_g8 t_w2_g8 p_w2_g8 y_w2_g9 c_w2_g9 f_w2_g9 r_w2_g9 t_w2_g9 p_w2_g9 y_w2_g10 c_w2_g10 f_w2_g10 r_w2_g10 t_w2_g10 p_w2_g10 y_w2_g11 c_w2_g11 f_w2_g11 r_w2_g11 t_w2_g11 p_w2_g11
         clear z_w1 yw1aa cw1aa fw1aa rw1aa tw1aa pw1aa yw1ab cw1ab fw1ab rw1ab tw1ab pw1ab y_w1_g4 c_w1_g4 f_w1_g4 r_w1_g4 t_w1_g4 p_w1_g4 y_w1_g5 c_w1_g5 f_w1_g5 r_w1_g5 t_w1_g5 p_w1_g5 y_w1_g6 c_w1_g6 f_w1_g6 r_w1_g6 t_w1_g6 p_w1_g6 y_w1_g7 c_w1_g7 f_w1_g7 r_w1_g7 t_w1_g7 p_w1_g7 y_w1_g8 c_w1_g8 f_w1_g8 r_w1_g8 t_w1_g8 p_w1_g8 y_w1_g9 c_w1_g9 f_w1_g9 r_w1_g9 t_w1_g9 p_w1_g9 y_w1_g10 c_w1_g10 f_w1_g10 r_w1_g10 t_w1_g10 p_w1_g10 y_w1_g11 c_w1_g11 f_w1_g11 r_w1_g11 t_w1_g11 p_w1_g11
         clear hg12 hw6 FR FC FZ iw i0 y0 y1 y4 y5 y6 y7 y8 y9 y10 y11 s4 s5 s6 s7 s8 s9 s10 s11 r4 r5 r6 r7 r8 r9 r10 r11 HR hbe hbc hbd hbd3 hbw HI HD HX HY HL HS HP HQ HRR HV HW HT1 HT2 HT3
         go_cut [14] from 15 (fun s14 wd=>∃ g14,s14 = .pointer (some ⟨g14,0,none⟩)∧w6.heap.size≤g14∧Hid (Blk wd g14 #[.int .i64 cx,.int .i64 cy,.int .i64 0,.int .i64 0,.int .i64 0] 35)∧Hid (PInv w6 g12 (max (max 0 k1) k2) wd))
         case first =>
          have PI:PInv w6 g12 0 w6:=⟨H12.out.lt,OnlyAt.refl,H12.out⟩
          clear t7 t8 t9 t10 t11 HR6 nn8 nn9 nn10 nn11 nnR
          go_region_held3 (fun w'=>w'.row? g4 0 18=some d.cells∧w'.row? g5 0 18=some x.cells∧w'.row? g6 0 18=some y.cells) ((with_reducible refine' PInv.rows ?hp nn4.out nn5.out nn6.out t4 t5 t6;(case hp=>(repeat (first|with_reducible assumption|with_reducible apply PInv.drew|with_reducible apply PInv.alloc|with_reducible apply PInv.setNew))))) (first|(go_at_call 275;with_reducible refine' Calls.mono (part_inv (w0:=w6) x d cx k1 _ g12 N1 ?hp) ?_;(case hp=>(repeat (first|with_reducible assumption|with_reducible apply PInv.drew|with_reducible apply PInv.alloc|with_reducible apply PInv.setNew)));rintro e v7 ⟨rfl,PI,ho⟩;(try (have X14:Blk v7 _ #[.int .i64 0,.int .i64 0,.int .i64 0,.int .i64 0,.int .i64 0] 35:=OnlyAt.blk ho (by first|with_reducible exact X14|with_reducible exact Blk.new _ _ _|(with_reducible refine Blk.drew ?_;with_reducible exact Blk.new _ _ _)) (PInv.ne (by repeat (first|with_reducible assumption|with_reducible apply PInv.drew|with_reducible apply PInv.alloc|with_reducible apply PInv.setNew))));(try simp only [drew_hs] at X14);have XC:=X14.at;have XZ:=X14.frozen;have XL:=X14.lt);clear ho)|(go_at_call 275;with_reducible refine' Calls.mono (part_inv (w0:=w6) y d cy k2 _ g12 N2 ?hp) ?_;(case hp=>(repeat (first|with_reducible assumption|with_reducible apply PInv.drew|with_reducible apply PInv.alloc|with_reducible apply PInv.setNew)));rintro e v7 ⟨rfl,PI,ho⟩;(try (have X14:Blk v7 _ #[.int .i64 0,.int .i64 0,.int .i64 0,.int .i64 0,.int .i64 0] 35:=OnlyAt.blk ho (by first|with_reducible exact X14|with_reducible exact Blk.new _ _ _|(with_reducible refine Blk.drew ?_;with_reducible exact Blk.new _ _ _)) (PInv.ne (by repeat (first|with_reducible assumption|with_reducible apply PInv.drew|with_reducible apply PInv.alloc|with_reducible apply PInv.setNew))));(try simp only [drew_hs] at X14);have XC:=X14.at;have XZ:=X14.frozen;have XL:=X14.lt);clear ho))
          all_goals go_wp2_with fail
          all_goals go_meet
          all_goals
           refine ⟨_,rfl,?le,Lib.hid ?bl,Lib.hid ?pi⟩
           case le=>first|with_reducible exact Nat.le_refl _|with_reducible exact PInv.room (by assumption)
           case pi=>repeat (first|with_reducible assumption|with_reducible apply PInv.drew|with_reducible apply PInv.alloc|with_reducible apply PInv.setNew)
           case bl=>first|with_reducible exact Blk.new _ _ _|with_reducible exact Blk.put5 X14 _ _ _ _ _
         case rest =>
          obtain ⟨g14,rfl,l14,H14,HPI⟩:=hcut
          have ho:=HPI.out.only
          have H12b:=Lib.hid HPI.out.blk
          have HR7:=Lib.hid (ho.blk HR6.out nnR.out)
          have u8:=(ho.row? g8 0 18 (row_lt t8.out) nn8.out).trans t8.out
          have u9:=(ho.row? g9 0 18 (row_lt t9.out) nn9.out).trans t9.out
          have u10:=(ho.row? g10 0 18 (row_lt t10.out) nn10.out).trans t10.out
          have u11:=(ho.row? g11 0 18 (row_lt t11.out) nn11.out).trans t11.out
          have hbg:Below w.heap.size w wc:=OnlyAt.below ho hbf (Nat.le_refl _) z12
          obtain ⟨K0,hK0⟩:∃ K,max (max 0 k1) k2=K:=⟨_,rfl⟩
          rw [hK0] at H12b E
          clear hK0
          have v8:=row_lt u8
          have v9:=row_lt u9
          have v10:=row_lt u10
          have v11:=row_lt u11
          have v12:=H12b.out.lt
          have v14:=H14.out.lt
          have vA:w.heap.size+1<wc.heap.size:=HR7.out.lt
          have vB:w.heap.size<wc.heap.size:=by omega
          have m12:=H12.out.lt
          have m8:=row_lt t8.out
          have m9:=row_lt t9.out
          have m10:=row_lt t10.out
          have m11:=row_lt t11.out
          have mA:w.heap.size+1<w6.heap.size:=HR6.out.lt
          have zA:w.heap.size+1≤g14:=by omega
          have zG:w.heap.size≤g14:=by omega
          have nE:¬ g14=g12:=by omega
          have nF:¬ g12=g14:=by omega
          have nG:¬ w.heap.size+1=g14:=by omega
          have nH:¬ w.heap.size+1=g12:=nnR.out
          have n8:¬ g8=g12:=nn8.out
          have n9:¬ g9=g12:=nn9.out
          have n10:¬ g10=g12:=nn10.out
          have n11:¬ g11=g12:=nn11.out
          have o8:¬ g8=g14:=by omega
          have o9:¬ g9=g14:=by omega
          have o10:¬ g10=g14:=by omega
          have o11:¬ g11=g14:=by omega
          have GC:=fun i=>H14.out.at i
          have GZ:=fun i=>H14.out.frozen i
          have RC:=fun i=>HR7.out.at i
          have RZ:=fun i=>HR7.out.frozen i
          have c12:wc.cell? ⟨g12,0,none⟩=some (.int .i64 K0):=H12b.out.cell rfl
          have f12:wc.frozen? ⟨g12,0,none⟩=false:=H12b.out.frozen 0
          have i3:=ceilV_i64 p sq
          rw [N3.out] at i3
          have i4:=ceilV_i64 q sq
          rw [N4.out] at i4
          obtain ⟨i31,i32⟩:=i3
          obtain ⟨i41,i42⟩:=i4
          simp only at i31 i32 i41 i42
          clear HPI ho t4 t5 t6 t7 t8 t9 t10 t11 HR6 H12 m12 m8 m9 m10 m11 mA nn8 nn9 nn10 nn11 nnR
          go_wp2_with fail
          refine Calls.mono (part2_c 277 p sq ea k3 K0 g12 _ fnCeil (ceil_v p sq ea k3 N3.out) ?c1 ?c2) ?_;(case c1=>go_simp);(case c2=>go_simp);rintro e wa ⟨rfl,w7,hb7,rfl⟩;have z_w7:=hb7.size;(try simp at z_w7);obtain ⟨yw7aa,cw7aa,fw7aa,rw7aa,tw7aa,pw7aa⟩:=bq hb7 (w.heap.size);obtain ⟨yw7ab,cw7ab,fw7ab,rw7ab,tw7ab,pw7ab⟩:=bq hb7 (w.heap.size+1);obtain ⟨y_w7_g8,c_w7_g8,f_w7_g8,r_w7_g8,t_w7_g8,p_w7_g8⟩:=bq hb7 (g8);obtain ⟨y_w7_g9,c_w7_g9,f_w7_g9,r_w7_g9,t_w7_g9,p_w7_g9⟩:=bq hb7 (g9);obtain ⟨y_w7_g10,c_w7_g10,f_w7_g10,r_w7_g10,t_w7_g10,p_w7_g10⟩:=bq hb7 (g10);obtain ⟨y_w7_g11,c_w7_g11,f_w7_g11,r_w7_g11,t_w7_g11,p_w7_g11⟩:=bq hb7 (g11);obtain ⟨y_w7_g12,c_w7_g12,f_w7_g12,r_w7_g12,t_w7_g12,p_w7_g12⟩:=bq hb7 (g12);obtain ⟨y_w7_g14,c_w7_g14,f_w7_g14,r_w7_g14,t_w7_g14,p_w7_g14⟩:=bq hb7 (g14)
          go_wp2_with fail
          refine Calls.mono (part2_c 277 q sq ed k4 (max K0 k3) g12 _ fnCeil (ceil_v q sq ed k4 N4.out) ?c1 ?c2) ?_;(case c1=>go_simp);(case c2=>go_simp);rintro e wb ⟨rfl,w8,hb8,rfl⟩;have z_w8:=hb8.size;(try simp at z_w8);obtain ⟨yw8aa,cw8aa,fw8aa,rw8aa,tw8aa,pw8aa⟩:=bq hb8 (w.heap.size);obtain ⟨yw8ab,cw8ab,fw8ab,rw8ab,tw8ab,pw8ab⟩:=bq hb8 (w.heap.size+1);obtain ⟨y_w8_g8,c_w8_g8,f_w8_g8,r_w8_g8,t_w8_g8,p_w8_g8⟩:=bq hb8 (g8);obtain ⟨y_w8_g9,c_w8_g9,f_w8_g9,r_w8_g9,t_w8_g9,p_w8_g9⟩:=bq hb8 (g9);obtain ⟨y_w8_g10,c_w8_g10,f_w8_g10,r_w8_g10,t_w8_g10,p_w8_g10⟩:=bq hb8 (g10);obtain ⟨y_w8_g11,c_w8_g11,f_w8_g11,r_w8_g11,t_w8_g11,p_w8_g11⟩:=bq hb8 (g11);obtain ⟨y_w8_g12,c_w8_g12,f_w8_g12,r_w8_g12,t_w8_g12,p_w8_g12⟩:=bq hb8 (g12);obtain ⟨y_w8_g14,c_w8_g14,f_w8_g14,r_w8_g14,t_w8_g14,p_w8_g14⟩:=bq hb8 (g14)
          go_wp2_with fail
          refine Calls.mono (part2_c 278 r sq eb k5 (max (max K0 k3) k4) g12 _ fnFloor (floor_v r sq eb k5 N5.out) ?c1 ?c2) ?_;(case c1=>go_simp);(case c2=>go_simp);rintro e wd ⟨rfl,w9,hb9,rfl⟩;have z_w9:=hb9.size;(try simp at z_w9);obtain ⟨yw9aa,cw9aa,fw9aa,rw9aa,tw9aa,pw9aa⟩:=bq hb9 (w.heap.size);obtain ⟨yw9ab,cw9ab,fw9ab,rw9ab,tw9ab,pw9ab⟩:=bq hb9 (w.heap.size+1);obtain ⟨y_w9_g12,c_w9_g12,f_w9_g12,r_w9_g12,t_w9_g12,p_w9_g12⟩:=bq hb9 (g12);obtain ⟨y_w9_g14,c_w9_g14,f_w9_g14,r_w9_g14,t_w9_g14,p_w9_g14⟩:=bq hb9 (g14)
          obtain ⟨K,hK⟩:∃ K,max (max (max K0 k3) k4) k5=K:=⟨_,rfl⟩
          rw [hK]
          have hb10:Below w.heap.size w w9:=below_byR
          obtain ⟨w10,hw10⟩:∃ w10,w10=w9.setCell ⟨g12,0,none⟩ (.int .i64 K):=⟨_,rfl⟩
          rw [← hw10]
          have hbh:Below w.heap.size w w10:=by rw [hw10];exact Below.setCell hb10 z12 _
          have d0:w10.cell? ⟨g14,0,none⟩=some (.int .i64 cx):=by rw [hw10];go_simp
          have d1:w10.cell? ⟨g14,1,none⟩=some (.int .i64 cy):=by rw [hw10];go_simp
          have d2:w10.cell? ⟨g14,2,none⟩=some (.int .i64 ea):=by rw [hw10];go_simp
          have d3:w10.cell? ⟨g14,3,none⟩=some (.int .i64 0):=by rw [hw10];go_simp
          have d4:w10.cell? ⟨g14,4,none⟩=some (.int .i64 ed):=by rw [hw10];go_simp
          have dz:∀ i,w10.frozen? ⟨g14,i,none⟩=false:=by intro i;rw [hw10];go_simp
          have h7:(w7.cell? ⟨g12,0,none⟩).isSome=true:=by rw [c_w7_g12 0,c12];rfl
          have h8:(w8.cell? ⟨g12,0,none⟩).isSome=true:=by rw [c_w8_g12 0];go_simp
          have h9:(w9.cell? ⟨g12,0,none⟩).isSome=true:=by rw [c_w9_g12 0];go_simp
          have k12:w10.cell? ⟨g12,0,none⟩=some (.int .i64 K):=by rw [hw10];exact World.cell?_setCell_same' _ _ _ h9
          clear h7 h8 h9
          have q0:w10.cell? ⟨w.heap.size+1,0,none⟩=some (.int .i64 0):=by rw [hw10];go_simp
          have q1:w10.cell? ⟨w.heap.size+1,1,none⟩=some (.int .i64 0):=by rw [hw10];go_simp
          have q2:w10.cell? ⟨w.heap.size+1,2,none⟩=some (.int .i64 0):=by rw [hw10];go_simp
          have q3:w10.cell? ⟨w.heap.size+1,3,none⟩=some (.int .i64 0):=by rw [hw10];go_simp
          have q4:w10.cell? ⟨w.heap.size+1,4,none⟩=some (.int .i64 0):=by rw [hw10];go_simp
          have qz:∀ i,w10.frozen? ⟨w.heap.size+1,i,none⟩=false:=by intro i;rw [hw10];go_simp
          have E1:Hid (F=ellEnd cx cy ea eb ed K):=by rw [← hK];exact E.out
          clear z_w9 yw9aa cw9aa fw9aa rw9aa tw9aa pw9aa yw9ab cw9ab fw9ab rw9ab tw9ab pw9ab y_w9_g12 c_w9_g12 f_w9_g12 r_w9_g12 t_w9_g12 p_w9_g12 y_w9_g14 c_w9_g14 f_w9_g14 r_w9_g14 t_w9_g14 p_w9_g14
          clear z_w8 yw8aa cw8aa fw8aa rw8aa tw8aa pw8aa yw8ab cw8ab fw8ab rw8ab tw8ab pw8ab y_w8_g8 c_w8_g8 f_w8_g8 r_w8_g8 t_w8_g8 p_w8_g8 y_w8_g9 c_w8_g9 f_w8_g9 r_w8_g9 t_w8_g9 p_w8_g9 y_w8_g10 c_w8_g10 f_w8_g10 r_w8_g10 t_w8_g10 p_w8_g10 y_w8_g11 c_w8_g11 f_w8_g11 r_w8_g11 t_w8_g11 p_w8_g11 y_w8_g12 c_w8_g12 f_w8_g12 r_w8_g12 t_w8_g12 p_w8_g12 y_w8_g14 c_w8_g14 f_w8_g14 r_w8_g14 t_w8_g14 p_w8_g14
          clear z_w7 yw7aa cw7aa fw7aa rw7aa tw7aa pw7aa yw7ab cw7ab fw7ab rw7ab tw7ab pw7ab y_w7_g8 c_w7_g8 f_w7_g8 r_w7_g8 t_w7_g8 p_w7_g8 y_w7_g9 c_w7_g9 f_w7_g9 r_w7_g9 t_w7_g9 p_w7_g9 y_w7_g10 c_w7_g10 f_w7_g10 r_w7_g10 t_w7_g10 p_w7_g10 y_w7_g11 c_w7_g11 f_w7_g11 r_w7_g11 t_w7_g11 p_w7_g11 y_w7_g12 c_w7_g12 f_w7_g12 r_w7_g12 t_w7_g12 p_w7_g12 y_w7_g14 c_w7_g14 f_w7_g14 r_w7_g14 t_w7_g14 p_w7_g14
          clear hb7 hb8 hb9 hb10 hw10 hK u8 u9 u10 u11 v8 v9 v10 v11 GC GZ RC RZ c12 f12 H14 H12b HR7 hbf hbg
          have v14':=block_lt_of_cell d0
          have vA':=block_lt_of_cell q0
          by_cases hk:K=0
          ·subst hk
           by_cases ha:70368744177664≤ea
           ·have E2:Hid (F=(El.zero,2)):=by show _=_;rw [E1.out];unfold ellEnd;rw [if_pos (.inr (.inl ha))]
            go_wp2_with fail
            exact bodyPost_row_t 5 #[.int .i64 0,.int .i64 0,.int .i64 0,.int .i64 0,.int .i64 0] (.int .i64 2) rfl rfl rfl rfl Tryz.underlying35 rfl (by kernel_rfl) (rc5 (by go_simp) (by go_simp) (by go_simp) (by go_simp) (by go_simp)) ⟨by rw [E2.out];rfl,below_byR⟩
           ·by_cases hd:70368744177664≤ed
            ·have E2:Hid (F=(El.zero,2)):=by show _=_;rw [E1.out];unfold ellEnd;rw [if_pos (.inr (.inr hd))]
             go_wp2_with fail
             exact bodyPost_row_t 5 #[.int .i64 0,.int .i64 0,.int .i64 0,.int .i64 0,.int .i64 0] (.int .i64 2) rfl rfl rfl rfl Tryz.underlying35 rfl (by kernel_rfl) (rc5 (by go_simp) (by go_simp) (by go_simp) (by go_simp) (by go_simp)) ⟨by rw [E2.out];rfl,below_byR⟩
            ·have E3:F=if El.may ⟨cx,cy,ea+1,eb,ed+1⟩=true then growE ⟨cx,cy,ea+1,eb,ed+1⟩ 1 else (El.zero,2):=by rw [E1.out];unfold ellEnd;rw [if_neg (by rintro (h|h|h);exact h rfl;exact ha h;exact hd h)]
             have ha':ea<70368744177664:=by omega
             have hd':ed<70368744177664:=by omega
             obtain ⟨m,hm⟩:∃ m,El.may ⟨cx,cy,ea+1,eb,ed+1⟩=m:=⟨_,rfl⟩
             have HM:=Lib.hid hm
             rw [hm] at E3
             clear hm
             go_wp2_with fail
             refine (ellmay_u _ _ _ _ _ _ HM.out _).mono ?_;rintro e we ⟨rfl,hb11⟩;have z_we:=hb11.size;(try simp at z_we);obtain ⟨y_we_g14,c_we_g14,f_we_g14,r_we_g14,t_we_g14,p_we_g14⟩:=bq hb11 (g14)
             obtain ⟨yR,cR,fR,rR,tR,pR⟩:=bk hb11 (w.heap.size+1) (by simp;omega)
             cases m with
             | false =>
              have E2:Hid (F=(El.zero,2)):=by show _=_;rw [E3];rfl
              clear E3
              go_wp2_with fail
              exact bodyPost_row_t 5 #[.int .i64 0,.int .i64 0,.int .i64 0,.int .i64 0,.int .i64 0] (.int .i64 2) rfl rfl rfl rfl Tryz.underlying35 rfl (by kernel_rfl) (rc5 (by go_simp) (by go_simp) (by go_simp) (by go_simp) (by go_simp)) ⟨by rw [E2.out];rfl,below_byR⟩
             | true =>
              obtain ⟨⟨fx,fy,fa,fb,fd⟩,fk,hF⟩:∃ o k,growE ⟨cx,cy,ea+1,eb,ed+1⟩ 1=(o,k):=⟨_,_,rfl⟩
              have HF:=Lib.hid hF
              have E2:Hid (F=(⟨fx,fy,fa,fb,fd⟩,fk)):=by show _=_;rw [E3,← hF];rfl
              clear E3 hF
              go_wp2_with fail
              refine (growball_v _ _ _ _ _ _ _ _ _ _ _ _ HF.out _).mono ?_;rintro e wf ⟨rfl,hb12⟩
              obtain ⟨yR2,cR2,fR2,rR2,tR2,pR2⟩:=bk hb12 (w.heap.size+1) (by first|omega|(simp;omega))
              have z_wf:=hb12.size;(try simp at z_wf)
              go_wp2_with fail
              exact bodyPost_row_t 5 #[.int .i64 fx,.int .i64 fy,.int .i64 fa,.int .i64 fb,.int .i64 fd] (.int .i64 fk) rfl rfl rfl rfl Tryz.underlying35 rfl (by kernel_rfl) (rc5 (by go_simp) (by go_simp) (by go_simp) (by go_simp) (by go_simp)) ⟨by rw [E2.out],below_byR⟩
          ·have nk:(K != 0)=true:=by simp [hk]
           have E2:Hid (F=(El.zero,2)):=by show _=_;rw [E1.out];unfold ellEnd;rw [if_pos (.inl hk)]
           go_wp2_with fail
           exact bodyPost_row_t 5 #[.int .i64 0,.int .i64 0,.int .i64 0,.int .i64 0,.int .i64 0] (.int .i64 2) rfl rfl rfl rfl Tryz.underlying35 rfl (by kernel_rfl) (rc5 (by go_simp) (by go_simp) (by go_simp) (by go_simp) (by go_simp)) ⟨by rw [E2.out];rfl,below_byR⟩
end Go.Proofs.YtechbdnhalmobaaGreatDoor
