/- Laws and walks that the claim names. -/
import Derived.Test.YtechbdnhalmobaaGreatDoorS0
set_option maxRecDepth 100000
set_option maxHeartbeats 16000000
namespace Go.Proofs.YtechbdnhalmobaaGreatDoor
set_option linter.unusedSimpArgs false
set_option linter.unusedVariables false
open Go.RowKit
theorem mix1_c (x y p q:WI) (g8 g9:Nat) (w:World) (h8:w.row? g8 0 18=some p.cells) (h9:w.row? g9 0 18=some q.cells) :
  Calls Tryz.prog 271 #[.agg x.cells,.agg y.cells,.pointer (some ⟨g8,0,none⟩),.pointer (some ⟨g9,0,none⟩)] w fun e w'=>e = .returned (.agg (sum4 x p y q).cells)∧Below w.heap.size w w':=by
 have l8:=row_lt h8
 have l9:=row_lt h9
 have a1:g8<w.heap.size+1:=by omega
 have a2:g8<w.heap.size+1+1:=by omega
 have a3:g9<w.heap.size+1:=by omega
 have a4:g9<w.heap.size+1+1:=by omega
 go_enter Tryz.func271,Tryz.ntmps271
 go_wp2_with fail
 refine (sum4_c x p y q _ _ (Blk.new' _ _ _ (by simp))).mono ?_;rintro e w1 ⟨rfl,hb1⟩;have z_w1:=hb1.size;(try simp at z_w1);obtain ⟨yw1aa,cw1aa,fw1aa,rw1aa,tw1aa,pw1aa⟩:=bq hb1 (w.heap.size);obtain ⟨yw1ab,cw1ab,fw1ab,rw1ab,tw1ab,pw1ab⟩:=bq hb1 (w.heap.size+1);obtain ⟨yw1ac,cw1ac,fw1ac,rw1ac,tw1ac,pw1ac⟩:=bq hb1 (w.heap.size+1+1)
 go_wp2_with fail
 exact bodyPost_row 18 (sum4 x p y q).cells rfl rfl rfl Tryz.underlying153 rfl info_Int (by go_simp) ⟨rfl,below_byR⟩
theorem mixW_main (a0 a1 a2 a3 a4 a5 a6 b0 b1 b2 b3 b4 b5 b6:WI) (k:Int) (h0:0≤k) (h1:k≤34) (P Q:WI) (hP:(WI.of k).mul b6=P) (hQ:(WI.of (34-k)).mul a6=Q) (w:World) :
  Calls Tryz.prog 213 #[.agg (blk [a0,a1,a2,a3,a4,a5,a6]),.agg (blk [b0,b1,b2,b3,b4,b5,b6]),.int .i64 k] w fun e w'=>e = .returned (.tuple #[.agg (blk [sum4 a0 P b0 Q,sum4 a1 P b1 Q,sum4 a2 P b2 Q,sum4 a3 P b3 Q,sum4 a4 P b4 Q,sum4 a5 P b5 Q,(WI.of 34).mul (a6.mul b6)]),.int .i64 0])∧Below w.heap.size w w':=by
 have K:Hid (I64 k∧I64 (34-k)∧I64 34):=by unfold Hid I64;omega
 have HP:=Lib.hid hP
 have HQ:=Lib.hid hQ
 clear hP hQ
 go_enter Tryz.func213,Tryz.ntmps213
 go_wp2_with fail
 obtain ⟨w3,hw3⟩:∃ w3,w3=((w.alloc (Obj.cells (blk [a0,a1,a2,a3,a4,a5,a6]) 225)).alloc (Obj.cells (blk [b0,b1,b2,b3,b4,b5,b6]) 225)).alloc (Obj.cells (blk [WI.of 0,WI.of 0,WI.of 0,WI.of 0,WI.of 0,WI.of 0,WI.of 0]) 225):=⟨_,rfl⟩
 rw [← hw3]
 have HI:Hid (Blk w3 w.heap.size (blk [a0,a1,a2,a3,a4,a5,a6]) 225):=by rw [hw3];exact ((Blk.new _ _ _).alloc _).alloc _
 have HJ:Hid (Blk w3 (w.heap.size+1) (blk [b0,b1,b2,b3,b4,b5,b6]) 225):=by rw [hw3];exact (Blk.new' _ _ _ (by simp)).alloc _
 have HR:Hid (Blk w3 (w.heap.size+1+1) (blk [WI.of 0,WI.of 0,WI.of 0,WI.of 0,WI.of 0,WI.of 0,WI.of 0]) 225):=by rw [hw3];exact Blk.new' _ _ _ (by simp)
 have hb3:Below w.heap.size w w3:=by rw [hw3];exact below_byR
 have sz3:w3.heap.size=w.heap.size+1+1+1:=by rw [hw3];simp
 clear hw3
 go_cut [8] from 9 (fun s8 wc=>∃ g,s8 = .pointer (some ⟨g,0,none⟩)∧w3.heap.size≤g∧Hid (wc.row? g 0 18=some P.cells)∧Hid (Below w3.heap.size w3 wc))
 case first =>
  have j6:=@inw_row _ _ _ _ _ ((HJ.out.row? 108 18 (by simp)).trans (congrArg some (blk_x6 _ _ _ _ _ _ _ _)))
  refine wp_region_fresh' 6 (fun k=>match k with|5=>some ⟨.cells (cellsI false false 0) 153,fun g => .pointer (some ⟨g,0,none⟩)⟩|_=>none) (fun _=>[]) (by kernel_rfl) (by kernel_rfl) ?_;refine ex_list ?_;apply Exists.intro;refine ex_list ?_;apply Exists.intro;refine ex_list ?_;apply Exists.intro;refine ex_list ?_;apply Exists.intro;refine ex_list ?_;apply Exists.intro;refine ex_list ⟨undef,?_⟩;refine ⟨[],fun gg NN hN=>?_⟩;simp only [List.take_succ_cons,List.take_zero,List.drop_succ_cons,List.drop_zero];(repeat (first|(refine lexF_quiet rfl ?_;go_big_quiet_step (first|exact rfl|(first|(go_at_call 86;exact calls_in (of_c _ K.out.1.1 K.out.1.2 _))|(go_at_call 153;exact calls_in (mul_I _ _ _))));refine wpQuiet_nil ⟨rfl,?_⟩)|(refine lexF_fresh _ (by rfl) (by rfl) ?hex ?_;(case hex=>(intro wx;first|(go_simp;done)|(go_simp;rfl)));simp only [Act.put,List.setIfInBounds_toArray,List.set_cons_succ,List.set_cons_zero])))
  refine lexF_nil ?_
  intro w4 hb4' hh _
  have hb4:Below w3.heap.size w3 w4:=hb4'
  obtain ⟨l8,e8⟩:=hh 5 _ (by decide) rfl
  clear hh hb4'
  have G8:Hid (Blk w4 (gg 5) (cellsI false false 0) 153):=e8
  rw [HP.out]
  have hp8:w4.put? (gg 5) 0 P.cells=some (w4.putRow (gg 5) 0 P.cells):=G8.out.put? 0 _ (by simp) (by simp)
  clear e8 j6
  go_wp2_with fail
  go_meet
  exact ⟨gg 5,rfl,l8,row_put hp8 (by simp),Below_putRow hb4 l8 _ _⟩
 case rest =>
  obtain ⟨g8,rfl,l8,r8,HB4⟩:=hcut
  have hb4:=HB4.out
  have HI2:=Lib.hid (HI.out.keep hb4)
  have HJ2:=Lib.hid (HJ.out.keep hb4)
  have HR2:=Lib.hid (HR.out.keep hb4)
  go_wp2_with fail
  go_cut [9] from 10 (fun s9 we=>∃ g,s9 = .pointer (some ⟨g,0,none⟩)∧w3.heap.size≤g∧Hid (we.row? g 0 18=some Q.cells)∧Hid (Below wc.heap.size wc we))
  case first =>
   have i6:=@inw_row _ _ _ _ _ ((HI2.out.row? 108 18 (by simp)).trans (congrArg some (blk_x6 _ _ _ _ _ _ _ _)))
   refine wp_region_fresh' 7 (fun k=>match k with|6=>some ⟨.cells (cellsI false false 0) 153,fun g => .pointer (some ⟨g,0,none⟩)⟩|_=>none) (fun _=>[]) (by kernel_rfl) (by kernel_rfl) ?_;refine ex_list ?_;apply Exists.intro;refine ex_list ?_;apply Exists.intro;refine ex_list ?_;apply Exists.intro;refine ex_list ?_;apply Exists.intro;refine ex_list ?_;apply Exists.intro;refine ex_list ?_;apply Exists.intro;refine ex_list ⟨undef,?_⟩;refine ⟨[],fun gg NN hN=>?_⟩;simp only [List.take_succ_cons,List.take_zero,List.drop_succ_cons,List.drop_zero];(repeat (first|(refine lexF_quiet rfl ?_;go_big_quiet_step (first|exact rfl|(first|(go_at_call 86;exact calls_in (of_c _ K.out.2.1.1 K.out.2.1.2 _))|(go_at_call 153;exact calls_in (mul_I _ _ _))));refine wpQuiet_nil ⟨rfl,?_⟩)|(refine lexF_fresh _ (by rfl) (by rfl) ?hex ?_;(case hex=>(intro wx;first|(go_simp;done)|(go_simp;rfl)));simp only [Act.put,List.setIfInBounds_toArray,List.set_cons_succ,List.set_cons_zero])))
   refine lexF_nil ?_
   intro w4 hb5' hh _
   have hb5:Below wc.heap.size wc w4:=hb5'
   obtain ⟨l9,e9⟩:=hh 6 _ (by decide) rfl
   clear hh hb5'
   have G9:Hid (Blk w4 (gg 6) (cellsI false false 0) 153):=e9
   rw [HQ.out]
   have hp9:w4.put? (gg 6) 0 Q.cells=some (w4.putRow (gg 6) 0 Q.cells):=G9.out.put? 0 _ (by simp) (by simp)
   clear e9 i6
   go_wp2_with fail
   go_meet
   exact ⟨gg 6,rfl,Nat.le_trans hb4.size l9,row_put hp9 (by simp),Below_putRow hb5 l9 _ _⟩
  case rest =>
   obtain ⟨g9,rfl,l9,r9,HB5⟩:=hcut
   have hb5:=HB5.out
   have HI3:=Lib.hid (HI2.out.keep hb5)
   have HJ3:=Lib.hid (HJ2.out.keep hb5)
   have HR3:=Lib.hid (HR2.out.keep hb5)
   have hbw:Below w3.heap.size w3 wc:=Below.trans hb4 (hb5.mono hb4.size)
   have k8:=@inw_row _ _ _ _ _ ((Below.row? hb5 g8 0 18 (row_lt r8.out)).trans r8.out)
   have k9:=@inw_row _ _ _ _ _ r9.out
   have i0:=@inw_row _ _ _ _ _ ((HI3.out.row? 0 18 (by simp)).trans (congrArg some (blk_x0 _ _)));have i1:=@inw_row _ _ _ _ _ ((HI3.out.row? 18 18 (by simp)).trans (congrArg some (blk_x1 _ _ _)));have i2:=@inw_row _ _ _ _ _ ((HI3.out.row? 36 18 (by simp)).trans (congrArg some (blk_x2 _ _ _ _)));have i3:=@inw_row _ _ _ _ _ ((HI3.out.row? 54 18 (by simp)).trans (congrArg some (blk_x3 _ _ _ _ _)));have i4:=@inw_row _ _ _ _ _ ((HI3.out.row? 72 18 (by simp)).trans (congrArg some (blk_x4 _ _ _ _ _ _)));have i5:=@inw_row _ _ _ _ _ ((HI3.out.row? 90 18 (by simp)).trans (congrArg some (blk_x5 _ _ _ _ _ _ _)));have i6:=@inw_row _ _ _ _ _ ((HI3.out.row? 108 18 (by simp)).trans (congrArg some (blk_x6 _ _ _ _ _ _ _ _)))
   have j0:=@inw_row _ _ _ _ _ ((HJ3.out.row? 0 18 (by simp)).trans (congrArg some (blk_x0 _ _)));have j1:=@inw_row _ _ _ _ _ ((HJ3.out.row? 18 18 (by simp)).trans (congrArg some (blk_x1 _ _ _)));have j2:=@inw_row _ _ _ _ _ ((HJ3.out.row? 36 18 (by simp)).trans (congrArg some (blk_x2 _ _ _ _)));have j3:=@inw_row _ _ _ _ _ ((HJ3.out.row? 54 18 (by simp)).trans (congrArg some (blk_x3 _ _ _ _ _)));have j4:=@inw_row _ _ _ _ _ ((HJ3.out.row? 72 18 (by simp)).trans (congrArg some (blk_x4 _ _ _ _ _ _)));have j5:=@inw_row _ _ _ _ _ ((HJ3.out.row? 90 18 (by simp)).trans (congrArg some (blk_x5 _ _ _ _ _ _ _)));have j6:=@inw_row _ _ _ _ _ ((HJ3.out.row? 108 18 (by simp)).trans (congrArg some (blk_x6 _ _ _ _ _ _ _ _)))
   go_wp2_with fail
   refine wp_region_fresh' 44 (fun _=>none) (fun _=>[]) (by kernel_rfl) (by kernel_rfl) ?_;refine ex_list ?_;apply Exists.intro;refine ex_list ?_;apply Exists.intro;refine ex_list ?_;apply Exists.intro;refine ex_list ?_;apply Exists.intro;refine ex_list ?_;apply Exists.intro;refine ex_list ?_;apply Exists.intro;refine ex_list ?_;apply Exists.intro;refine ex_list ?_;apply Exists.intro;refine ex_list ?_;apply Exists.intro;refine ex_list ?_;apply Exists.intro;refine ex_list ?_;apply Exists.intro;refine ex_list ?_;apply Exists.intro;refine ex_list ?_;apply Exists.intro;refine ex_list ?_;apply Exists.intro;refine ex_list ?_;apply Exists.intro;refine ex_list ?_;apply Exists.intro;refine ex_list ?_;apply Exists.intro;refine ex_list ?_;apply Exists.intro;refine ex_list ?_;apply Exists.intro;refine ex_list ?_;apply Exists.intro;refine ex_list ?_;apply Exists.intro;refine ex_list ?_;apply Exists.intro;refine ex_list ?_;apply Exists.intro;refine ex_list ?_;apply Exists.intro;refine ex_list ?_;apply Exists.intro;refine ex_list ?_;apply Exists.intro;refine ex_list ?_;apply Exists.intro;refine ex_list ?_;apply Exists.intro;refine ex_list ?_;apply Exists.intro;refine ex_list ?_;apply Exists.intro;refine ex_list ?_;apply Exists.intro;refine ex_list ?_;apply Exists.intro;refine ex_list ?_;apply Exists.intro;refine ex_list ?_;apply Exists.intro;refine ex_list ?_;apply Exists.intro;refine ex_list ?_;apply Exists.intro;refine ex_list ?_;apply Exists.intro;refine ex_list ?_;apply Exists.intro;refine ex_list ?_;apply Exists.intro;refine ex_list ?_;apply Exists.intro;refine ex_list ?_;apply Exists.intro;refine ex_list ?_;apply Exists.intro;refine ex_list ?_;apply Exists.intro;refine ex_list ?_;apply Exists.intro;refine ⟨[],fun gg NN hN=>?_⟩;simp only [List.take_succ_cons,List.take_zero,List.drop_succ_cons,List.drop_zero];(repeat (refine lexF_quiet rfl ?_;go_big_quiet_step (first|exact rfl|(first|(go_at_call 153;exact calls_in (mul_I _ _ _))|(go_at_call 271;rename_i px;exact calls_in (mix1_c _ _ P Q g8 g9 _ (k8 px) (k9 px)))|(go_at_call 86;exact calls_in (of_c _ K.out.2.2.1 K.out.2.2.2 _))));refine wpQuiet_nil ⟨rfl,?_⟩))
   refine lexF_nil ?_
   intro w8 hb8' _ _
   have hb8:Below wc.heap.size wc w8:=hb8'
   clear hb8' k8 k9 i0 j0 i1 j1 i2 j2 i3 j3 i4 j4 i5 j5 i6 j6
   have HR4:=Lib.hid (HR3.out.keep hb8)
   have hpR:=HR4.out.put? 0 (blk [sum4 a0 P b0 Q,sum4 a1 P b1 Q,sum4 a2 P b2 Q,sum4 a3 P b3 Q,sum4 a4 P b4 Q,sum4 a5 P b5 Q,(WI.of 34).mul (a6.mul b6)]) (by simp) (by simp)
   have rR:=row_put hpR (n:=126) (by simp)
   have hbe:Below w.heap.size w w8:=Below.trans hb3 ((Below.trans hbw (hb8.mono hbw.size)).mono hb3.size)
   go_wp2_with fail
   exact bodyPost_row_t 126 _ (.int .i64 0) rfl rfl rfl rfl Tryz.underlying225 rfl info_Info rR ⟨rfl,Below_putRow hbe (by omega) _ _⟩
theorem mixW_bad (a0 a1 a2 a3 a4 a5 a6 b0 b1 b2 b3 b4 b5 b6:WI) (k:Int) (h:k<0∨34<k) (w:World) :
  Calls Tryz.prog 213 #[.agg (blk [a0,a1,a2,a3,a4,a5,a6]),.agg (blk [b0,b1,b2,b3,b4,b5,b6]),.int .i64 k] w fun e w'=>e = .returned (.tuple #[.agg (blk [WI.of 0,WI.of 0,WI.of 0,WI.of 0,WI.of 0,WI.of 0,WI.of 0]),.int .i64 1])∧Below w.heap.size w w':=by
 by_cases h1:k<0
 ·clear h
  go_enter Tryz.func213,Tryz.ntmps213
  go_wp2_with fail
  exact bodyPost_row_t 126 (blk [WI.of 0,WI.of 0,WI.of 0,WI.of 0,WI.of 0,WI.of 0,WI.of 0]) (.int .i64 1) rfl rfl rfl rfl Tryz.underlying225 rfl info_Info (by go_simp) ⟨rfl,below_byR⟩
 ·have h2:34<k:=by omega
  clear h
  go_enter Tryz.func213,Tryz.ntmps213
  go_wp2_with fail
  exact bodyPost_row_t 126 (blk [WI.of 0,WI.of 0,WI.of 0,WI.of 0,WI.of 0,WI.of 0,WI.of 0]) (.int .i64 1) rfl rfl rfl rfl Tryz.underlying225 rfl info_Info (by go_simp) ⟨rfl,below_byR⟩
def mixI (i j:Iq) (k:Int):Iq:=⟨i.A*(k*j.N)+j.A*((34-k)*i.N),i.B*(k*j.N)+j.B*((34-k)*i.N),i.D*(k*j.N)+j.D*((34-k)*i.N),i.U*(k*j.N)+j.U*((34-k)*i.N),
 i.V*(k*j.N)+j.V*((34-k)*i.N),i.Z*(k*j.N)+j.Z*((34-k)*i.N),34*(i.N*j.N)⟩
def mixQ (i j:Iq) (k:Int):Iq × Int:=if 0≤k∧k≤34 then (mixI i j k,0) else (Iq.zero,1)
structure Iq.Sml (n:Nat) (i:Iq):Prop where
 A:Sm n i.A
 B:Sm n i.B
 D:Sm n i.D
 U:Sm n i.U
 V:Sm n i.V
 Z:Sm n i.Z
 N:Sm n i.N
theorem mix_c (i j:Iq) (hi:i.Sml 120) (hj:j.Sml 120) (k:Int) (w:World) :
  Calls Tryz.prog 213 #[iqV i,iqV j,.int .i64 k] w fun e w'=>e = .returned (.tuple #[iqV (mixQ i j k).1,.int .i64 (mixQ i j k).2])∧Below w.heap.size w w':=by
 by_cases h:0≤k∧k≤34
 ·have e:mixQ i j k=(mixI i j k,0):=by unfold mixQ;rw [if_pos h]
  have kk:Sm 120 k:=(Sm.of64 (by omega) (by omega)).mono (by decide)
  have k2:Sm 120 (34-k):=(Sm.of64 (by omega) (by omega)).mono (by decide)
  have k3:Sm 120 34:=(Sm.of64 (by decide) (by decide)).mono (by decide)
  have hP:(WI.of k).mul (WI.of j.N)=WI.of (k*j.N):=WI.of_mul (kk.lim (by decide)) (hj.N.lim (by decide))
  have hQ:(WI.of (34-k)).mul (WI.of i.N)=WI.of ((34-k)*i.N):=WI.of_mul (k2.lim (by decide)) (hi.N.lim (by decide))
  have sP:=kk.mul hj.N
  have sQ:=k2.mul hi.N
  have key:∀ a b,Sm 120 a→Sm 120 b→sum4 (WI.of a) (WI.of (k*j.N)) (WI.of b) (WI.of ((34-k)*i.N))=WI.of (a*(k*j.N)+b*((34-k)*i.N)):=fun a b ha hb =>
   sum4_of (j:=240) _ _ _ _ (ha.mono (by decide)) sP (hb.mono (by decide)) sQ (by decide)
  have hN:(WI.of 34).mul ((WI.of i.N).mul (WI.of j.N))=WI.of (34*(i.N*j.N)):=by
   rw [WI.of_mul (hi.N.lim (by decide)) (hj.N.lim (by decide)),WI.of_mul (k3.lim (by decide)) ((hi.N.mul hj.N).lim (by decide))]
  have:=mixW_main (WI.of i.A) (WI.of i.B) (WI.of i.D) (WI.of i.U) (WI.of i.V) (WI.of i.Z) (WI.of i.N) (WI.of j.A) (WI.of j.B) (WI.of j.D) (WI.of j.U) (WI.of j.V) (WI.of j.Z) (WI.of j.N) k h.1 h.2 _ _ hP hQ w
  rw [key _ _ hi.A hj.A,key _ _ hi.B hj.B,key _ _ hi.D hj.D,key _ _ hi.U hj.U,key _ _ hi.V hj.V,key _ _ hi.Z hj.Z,hN] at this
  rw [e];exact this
 ·have e:mixQ i j k=(Iq.zero,1):=by unfold mixQ;rw [if_neg h]
  rw [e]
  exact mixW_bad _ _ _ _ _ _ _ _ _ _ _ _ _ _ k (by omega) w
open Go.RowKit
def overB (l:List WI):Bool:=l.any (·.ov)
theorem blk_row {w:World} {g:Nat} {l:List WI} {t:TypeId} (h:Blk w g (blk l) t) (k:Nat) (x:WI) (hx:l[k]? = some x):w.row? g (18*k) 18=some x.cells:=by
 have hk:k<l.length:=(List.getElem?_eq_some_iff.1 hx).1
 rw [h.row? (18*k) 18 (by rw [blk_size];omega),blk_at l k x hx]
theorem over_v (x:WI) (b:Bool) (h:x.ov=b) (w:World) :
  Calls Tryz.prog 319 #[.agg x.cells] w fun e w'=>e = .returned (.bool b)∧Below w.heap.size w w':=by
 subst h;exact over_I x w
theorem over_c (l:List WI) (g:Nat) (w:World) (hl:l.length≤1000) (hall:overB l=false) (hg:w.heap[g]? = some (.cells (blk l) 153 (0,0))) :
  Calls Tryz.prog 274 #[.slice (some ⟨g,0,none⟩) l.length l.length] w fun e w'=>e = .returned (.bool false)∧Below w.heap.size w w':=by
 have HG:Hid (Blk w g (blk l) 153):=hg
 have HA:=Lib.hid hall
 have lg:=HG.out.lt
 clear hg hall
 go_enter Tryz.func274,Tryz.ntmps274
 go_wp2
 go_loopw [7] (fun i wr=>∃ k:Nat,k≤l.length∧i = .int .i64 k∧Hid (Below w.heap.size w wr)) (fun i _=>l.length-(intOf i).toNat)
 case atStart=>exact ⟨0,by omega,rfl,Below.refl _ _⟩
 case round =>
  obtain ⟨k,hk,rfl,HB⟩:=hrel
  by_cases hlt:k<l.length
  ·obtain ⟨x,hx⟩:∃ x,l[k]? = some x:=⟨_,List.getElem?_eq_getElem hlt⟩
   have hx0:Hid (x.ov=false):=by
    have h:=HA.out
    unfold overB at h
    rw [List.any_eq_false] at h
    have:=h x (List.mem_of_getElem? hx)
    show x.ov=false
    simpa using this
   have g1:=blk_row (HG.out.keep HB.out) k x hx
   have g2:wr.row? g (k*18) 18=some x.cells:=by rw [Nat.mul_comm];exact g1
   have hb:=HB.out
   have hk1:(k:Int)<(l.length:Int):=by omega
   have hk0:(0:Int)≤k:=by omega
   clear g1
   go_wp2_with fail
   refine (over_v _ _ hx0.out _).mono ?_;rintro e w1 ⟨rfl,hb1⟩
   have s1:=hb.size
   go_wp2_with fail
   refine ⟨⟨k+1,by omega,by go_num,?_⟩,by simp [intOf];omega⟩
   exact (show Below _ _ _ from below_byR)
  ·have hk2:¬ (k:Int)<(l.length:Int):=by omega
   go_wp2_with fail
   go_ret
   exact ⟨rfl,HB.out⟩
theorem any_c (a0 a1 a2 a3 a4 a5 a6:WI) (hall:overB [a0,a1,a2,a3,a4,a5,a6]=false) (w:World) :
  Calls Tryz.prog 273 #[.agg (blk [a0,a1,a2,a3,a4,a5,a6])] w fun e w'=>e = .returned (.bool false)∧Below w.heap.size w w':=by
 have HA:=Lib.hid hall
 clear hall
 go_enter Tryz.func273,Tryz.ntmps273
 go_wp2_with fail
 refine (over_c [a0,a1,a2,a3,a4,a5,a6] _ _ (by simp) HA.out (Blk.new' _ _ _ (by simp))).mono ?_;rintro e w1 ⟨rfl,hb1⟩
 have s1:=hb1.size;simp at s1
 go_wp2_with fail
 go_ret
 exact ⟨rfl,below_byR⟩
def levW (a0 a1 a2 a3 a4 a5 a6 d:WI):WI:=((a6.sub a5).mul d).add ((sum4 a2 (a3.mul a3) a0 (a4.mul a4)).add ((WI.of 2).mul (a1.mul (a3.mul a4))).neg)
theorem two_1:Hid (-9223372036854775808≤(2:Int)∧(2:Int)≤9223372036854775807):=⟨by decide,by decide⟩
theorem level_c (a0 a1 a2 a3 a4 a5 a6 d:WI) (w:World) :
  Calls Tryz.prog 272 #[.agg (blk [a0,a1,a2,a3,a4,a5,a6]),.agg d.cells] w fun e w'=>e = .returned (.agg (levW a0 a1 a2 a3 a4 a5 a6 d).cells)∧Below w.heap.size w w':=by
 go_enter Tryz.func272,Tryz.ntmps272
 go_wp2_with fail
 obtain ⟨wc,hw3⟩:∃ w3,w3=((w.alloc (Obj.cells (blk [a0,a1,a2,a3,a4,a5,a6]) 225)).alloc (Obj.cells d.cells 153)).alloc (Obj.cells (cellsI false false 0) 153):=⟨_,rfl⟩
 rw [← hw3]
 have HI:Hid (Blk wc w.heap.size (blk [a0,a1,a2,a3,a4,a5,a6]) 225):=by rw [hw3];exact ((Blk.new _ _ _).alloc _).alloc _
 have r3:Hid (wc.row? (w.heap.size+1) 0 18=some d.cells):=by
  have:Blk wc (w.heap.size+1) d.cells 153:=by rw [hw3];exact (Blk.new' _ _ _ (by simp)).alloc _
  exact this.row?_all 18 (by simp)
 have HR:Hid (Blk wc (w.heap.size+1+1) (cellsI false false 0) 153):=by rw [hw3];exact Blk.new' _ _ _ (by simp)
 have hbw:Below w.heap.size w wc:=by rw [hw3];exact below_byR
 clear hw3
 go_cut [5] from 6 (fun s5 we=>∃ g5,s5 = .pointer (some ⟨g5,0,none⟩)∧w.heap.size≤g5∧Hid (we.row? g5 0 18=some (sum4 a2 (a3.mul a3) a0 (a4.mul a4)).cells)∧Hid (Below wc.heap.size wc we))
 case first =>
  have i0:=@inw_row _ _ _ _ _ ((HI.out.row? 0 18 (by simp)).trans (congrArg some (blk_x0 _ _)))
  have i2:=@inw_row _ _ _ _ _ ((HI.out.row? 36 18 (by simp)).trans (congrArg some (blk_x2 _ _ _ _)))
  have i3:=@inw_row _ _ _ _ _ ((HI.out.row? 54 18 (by simp)).trans (congrArg some (blk_x3 _ _ _ _ _)))
  have i4:=@inw_row _ _ _ _ _ ((HI.out.row? 72 18 (by simp)).trans (congrArg some (blk_x4 _ _ _ _ _ _)))
  refine wp_region_fresh' 17 (fun k=>match k with|14=>some ⟨.cells (blk [a2,a3.mul a3,a0,a4.mul a4]) 153,fun g => .slice (some ⟨g,0,none⟩) 4 4⟩|16=>some ⟨.cells (cellsI false false 0) 153,fun g => .pointer (some ⟨g,0,none⟩)⟩|_=>none) (fun k=>match k with|15=>[14]|_=>[]) (by kernel_rfl) (by kernel_rfl) ?_;refine ex_list ?_;apply Exists.intro;refine ex_list ?_;apply Exists.intro;refine ex_list ?_;apply Exists.intro;refine ex_list ?_;apply Exists.intro;refine ex_list ?_;apply Exists.intro;refine ex_list ?_;apply Exists.intro;refine ex_list ?_;apply Exists.intro;refine ex_list ?_;apply Exists.intro;refine ex_list ?_;apply Exists.intro;refine ex_list ?_;apply Exists.intro;refine ex_list ?_;apply Exists.intro;refine ex_list ?_;apply Exists.intro;refine ex_list ?_;apply Exists.intro;refine ex_list ?_;apply Exists.intro;refine ex_list ⟨undef,?_⟩;refine ex_list ?_;apply Exists.intro;refine ex_list ⟨undef,?_⟩;refine ⟨[],fun gg NN hN=>?_⟩;simp only [List.take_succ_cons,List.take_zero,List.drop_succ_cons,List.drop_zero];(repeat (first|(refine lexF_quiet rfl ?_;go_big_quiet_step (first|exact rfl|(first|(go_at_call 153;exact calls_in (mul_I _ _ _))|(go_at_call 212;rename_i px;exact calls_in (sum4_c _ _ _ _ _ _ (px.has 14 (hN 15 14 (by simp)) _ rfl).2))));refine wpQuiet_nil ⟨rfl,?_⟩)|(refine lexF_fresh _ (by rfl) (by rfl) ?hex ?_;(case hex=>(intro wx;first|(go_simp;done)|(go_simp;rfl)));simp only [Act.put,List.setIfInBounds_toArray,List.set_cons_succ,List.set_cons_zero])))
  refine lexF_nil ?_
  intro wn hbn' hh hd
  have hbn:Below wc.heap.size wc wn:=hbn'
  obtain ⟨l5,e5⟩:=hh 16 _ (by decide) rfl
  have G5:Hid (Blk wn (gg 16) (cellsI false false 0) 153):=e5
  have hp5:(wn).put? (gg 16) 0 (sum4 a2 (a3.mul a3) a0 (a4.mul a4)).cells=some ((wn).putRow (gg 16) 0 (sum4 a2 (a3.mul a3) a0 (a4.mul a4)).cells):=(G5.out).put? 0 _ (by simp) (by simp)
  clear hh hd hbn' e5 i0 i2 i3 i4
  go_wp2_with fail
  go_meet
  refine ⟨gg 16,rfl,Nat.le_trans hbw.size l5,?_,(Below_putRow hbn l5 _ _)⟩
  ·show _=_;rw [(((G5.out).putRow_same 0 (sum4 a2 (a3.mul a3) a0 (a4.mul a4)).cells)).row? 0 18 (by simp)];simp
 case rest =>
  obtain ⟨g5,rfl,l5,r5,HBN⟩:=hcut
  have hbn:=HBN.out
  have hbw2:=Below.trans hbw (hbn.mono hbw.size)
  clear hbw
  have hbw:=hbw2
  clear hbw2
  have HI2:=Lib.hid (HI.out.keep hbn)
  clear HI
  have HI:=HI2
  clear HI2
  have r3:=Lib.hid ((Below.row? hbn _ 0 18 (row_lt r3.out)).trans r3.out)
  have HR2:=Lib.hid (HR.out.keep hbn)
  clear HR
  have HR:=HR2
  clear HR2
  clear hbn HBN
  go_wp2_with fail
  go_cut [6] from 7 (fun s6 we=>∃ g6,s6 = .pointer (some ⟨g6,0,none⟩)∧w.heap.size≤g6∧Hid (we.row? g6 0 18=some ((WI.of 2).mul (a1.mul (a3.mul a4))).cells)∧Hid (Below wc.heap.size wc we))
  case first =>
   have i1:=@inw_row _ _ _ _ _ ((HI.out.row? 18 18 (by simp)).trans (congrArg some (blk_x1 _ _ _)))
   have i3:=@inw_row _ _ _ _ _ ((HI.out.row? 54 18 (by simp)).trans (congrArg some (blk_x3 _ _ _ _ _)))
   have i4:=@inw_row _ _ _ _ _ ((HI.out.row? 72 18 (by simp)).trans (congrArg some (blk_x4 _ _ _ _ _ _)))
   refine wp_region_fresh' 11 (fun k=>match k with|10=>some ⟨.cells (cellsI false false 0) 153,fun g => .pointer (some ⟨g,0,none⟩)⟩|_=>none) (fun _=>[]) (by kernel_rfl) (by kernel_rfl) ?_;refine ex_list ?_;apply Exists.intro;refine ex_list ?_;apply Exists.intro;refine ex_list ?_;apply Exists.intro;refine ex_list ?_;apply Exists.intro;refine ex_list ?_;apply Exists.intro;refine ex_list ?_;apply Exists.intro;refine ex_list ?_;apply Exists.intro;refine ex_list ?_;apply Exists.intro;refine ex_list ?_;apply Exists.intro;refine ex_list ?_;apply Exists.intro;refine ex_list ⟨undef,?_⟩;refine ⟨[],fun gg NN hN=>?_⟩;simp only [List.take_succ_cons,List.take_zero,List.drop_succ_cons,List.drop_zero];(repeat (first|(refine lexF_quiet rfl ?_;go_big_quiet_step (first|exact rfl|(first|(go_at_call 153;exact calls_in (mul_I _ _ _))|(go_at_call 86;exact calls_in (of_c _ two_1.out.1 two_1.out.2 _))));refine wpQuiet_nil ⟨rfl,?_⟩)|(refine lexF_fresh _ (by rfl) (by rfl) ?hex ?_;(case hex=>(intro wx;first|(go_simp;done)|(go_simp;rfl)));simp only [Act.put,List.setIfInBounds_toArray,List.set_cons_succ,List.set_cons_zero])))
   refine lexF_nil ?_
   intro wn hbn' hh hd
   have hbn:Below wc.heap.size wc wn:=hbn'
   obtain ⟨l6,e6⟩:=hh 10 _ (by decide) rfl
   have G6:Hid (Blk wn (gg 10) (cellsI false false 0) 153):=e6
   have hp6:(wn).put? (gg 10) 0 ((WI.of 2).mul (a1.mul (a3.mul a4))).cells=some ((wn).putRow (gg 10) 0 ((WI.of 2).mul (a1.mul (a3.mul a4))).cells):=(G6.out).put? 0 _ (by simp) (by simp)
   clear hh hd hbn' e6 i1 i3 i4
   go_wp2_with fail
   go_meet
   refine ⟨gg 10,rfl,Nat.le_trans hbw.size l6,?_,(Below_putRow hbn l6 _ _)⟩
   ·show _=_;rw [(((G6.out).putRow_same 0 ((WI.of 2).mul (a1.mul (a3.mul a4))).cells)).row? 0 18 (by simp)];simp
  case rest =>
   obtain ⟨g6,rfl,l6,r6,HBN⟩:=hcut
   have hbn:=HBN.out
   have hbw2:=Below.trans hbw (hbn.mono hbw.size)
   clear hbw
   have hbw:=hbw2
   clear hbw2
   have HI2:=Lib.hid (HI.out.keep hbn)
   clear HI
   have HI:=HI2
   clear HI2
   have r5:=Lib.hid ((Below.row? hbn g5 0 18 (row_lt r5.out)).trans r5.out)
   have r3:=Lib.hid ((Below.row? hbn _ 0 18 (row_lt r3.out)).trans r3.out)
   have HR2:=Lib.hid (HR.out.keep hbn)
   clear HR
   have HR:=HR2
   clear HR2
   clear hbn HBN
   have i5:=@inw_row _ _ _ _ _ ((HI.out.row? 90 18 (by simp)).trans (congrArg some (blk_x5 _ _ _ _ _ _ _)))
   have i6:=@inw_row _ _ _ _ _ ((HI.out.row? 108 18 (by simp)).trans (congrArg some (blk_x6 _ _ _ _ _ _ _ _)))
   have k3:=@inw_row _ _ _ _ _ r3.out
   have k5:=@inw_row _ _ _ _ _ r5.out
   have k6:=@inw_row _ _ _ _ _ r6.out
   go_wp2_with fail
   refine wp_region_fresh' 12 (fun _=>none) (fun _=>[]) (by kernel_rfl) (by kernel_rfl) ?_;refine ex_list ?_;apply Exists.intro;refine ex_list ?_;apply Exists.intro;refine ex_list ?_;apply Exists.intro;refine ex_list ?_;apply Exists.intro;refine ex_list ?_;apply Exists.intro;refine ex_list ?_;apply Exists.intro;refine ex_list ?_;apply Exists.intro;refine ex_list ?_;apply Exists.intro;refine ex_list ?_;apply Exists.intro;refine ex_list ?_;apply Exists.intro;refine ex_list ?_;apply Exists.intro;refine ex_list ?_;apply Exists.intro;refine ⟨[],fun gg NN hN=>?_⟩;simp only [List.take_succ_cons,List.take_zero,List.drop_succ_cons,List.drop_zero];(repeat (refine lexF_quiet rfl ?_;go_big_quiet_step (first|exact rfl|(first|(go_at_call 153;exact calls_in (mul_I _ _ _))|(go_at_call 155;exact calls_in (add_I _ _ _))|(go_at_call 85;exact calls_in (sub_I _ _ _))|(go_at_call 156;exact calls_in (neg_I _ _))));refine wpQuiet_nil ⟨rfl,?_⟩))
   refine lexF_nil ?_
   intro w8 hb8' _ _
   have hb8:Below wc.heap.size wc w8:=hb8'
   clear hb8' i5 i6 k3 k5 k6
   have HR4:=Lib.hid (HR.out.keep hb8)
   have hpR:=HR4.out.put? 0 (levW a0 a1 a2 a3 a4 a5 a6 d).cells (by simp) (by simp)
   have rR:=row_put hpR (n:=18) (by simp)
   have hbe:Below w.heap.size w w8:=Below.trans hbw (hb8.mono hbw.size)
   unfold levW at hpR rR
   go_wp2_with fail
   exact bodyPost_row 18 _ rfl rfl rfl Tryz.underlying153 rfl info_Int rR ⟨rfl,Below_putRow hbe (by omega) _ _⟩
open Go.RowKit
theorem i64_0:I64 0:=⟨by decide,by decide⟩
theorem WI.i64_i64 (x:WI):I64 x.i64.1:=by
 unfold WI.i64
 split
 ·split
  ·rename_i h;exact h
  ·exact i64_0
 ·exact i64_0
theorem narrowV_i64 (x:WI) (e:Int):I64 (narrowV x e).1:=by
 unfold narrowV
 split
 ·exact i64_0
 ·split
  ·exact x.i64_i64
  ·exact i64_0
theorem ceilV_i64 (x y:WI):I64 (ceilV x y).1:=by
 unfold ceilV;split
 ·exact i64_0
 ·exact narrowV_i64 _ _
@[go_sem] theorem row?_setCell_other {w : World} {g i : Nat} {v : Value} {b o n : Nat} (h : b ≠ g) : (w.setCell ⟨g, i, none⟩ v).row? b o n = w.row? b o n := by
  unfold World.row?;rw [heap_setCell_other _ _ _ _ h]
@[go_sem] theorem fits_setCell_other {w : World} {g i : Nat} {v : Value} {b n : Nat} (h : b ≠ g) : (w.setCell ⟨g, i, none⟩ v).fits b n = w.fits b n := by
  unfold World.fits;rw [heap_setCell_other _ _ _ _ h]
theorem near_v (x y:WI) (n e:Int) (h:nearV x y=(n,e)) (w:World) :
  Calls Tryz.prog 276 #[.agg x.cells,.agg y.cells] w fun r w'=>r = .returned (.tuple #[.int .i64 n,.int .i64 e])∧Below w.heap.size w w':=by
 have:=near_c x y w
 rw [h] at this;exact this
theorem ceil_v (x y:WI) (n e:Int) (h:ceilV x y=(n,e)) (w:World) :
  Calls Tryz.prog 277 #[.agg x.cells,.agg y.cells] w fun r w'=>r = .returned (.tuple #[.int .i64 n,.int .i64 e])∧Below w.heap.size w w':=by
 have:=ceil_c x y w
 rw [h] at this;exact this
theorem floor_v (x y:WI) (n e:Int) (h:floorV x y=(n,e)) (w:World) :
  Calls Tryz.prog 278 #[.agg x.cells,.agg y.cells] w fun r w'=>r = .returned (.tuple #[.int .i64 n,.int .i64 e])∧Below w.heap.size w w':=by
 have:=floor_c x y w
 rw [h] at this;exact this
theorem fnNear:∀ args w,Sem.run Tryz.prog (callFunc 276 args) w = .ok (.enter 276 args) w:=by intro args w;rfl
theorem fnCeil:∀ args w,Sem.run Tryz.prog (callFunc 277 args) w = .ok (.enter 277 args) w:=by intro args w;rfl
theorem fnFloor:∀ args w,Sem.run Tryz.prog (callFunc 278 args) w = .ok (.enter 278 args) w:=by intro args w;rfl
def ellEnd (cx cy a b d e:Int):El × Int :=
 if e≠0∨70368744177664≤a∨70368744177664≤d then (El.zero,2)
 else if El.may ⟨cx,cy,a+1,b,d+1⟩=true then growE ⟨cx,cy,a+1,b,d+1⟩ 1 else (El.zero,2)
theorem part2_c (fn:FuncId) (x y:WI) (n e bad:Int) (g:Nat) (w:World) (hfn:∀ args w,Sem.run Tryz.prog (callFunc fn args) w = .ok (.enter fn args) w)
  (H:∀ w,Calls Tryz.prog fn #[.agg x.cells,.agg y.cells] w fun r w'=>r = .returned (.tuple #[.int .i64 n,.int .i64 e])∧Below w.heap.size w w')
  (c0:w.cell? ⟨g,0,none⟩=some (.int .i64 bad)) (f0:w.frozen? ⟨g,0,none⟩=false) :
  Calls Tryz.prog 275 #[.func (.func fn) #[] #[],.agg x.cells,.agg y.cells,.pointer (some ⟨g,0,none⟩)] w
   fun r w'=>r = .returned (.int .i64 n)∧∃ w1,Below w.heap.size w w1∧w'=w1.setCell ⟨g,0,none⟩ (.int .i64 (max bad e)):=by
 have HH:=Lib.hid H
 have lg:g<w.heap.size:=block_lt_of_cell c0
 have a1:g<w.heap.size+1:=by omega
 clear H
 go_enter Tryz.func275,Tryz.ntmps275
 go_wp2_with fail
 refine (HH.out _).mono ?_;rintro e' w1 ⟨rfl,hb1⟩;have z_w1:=hb1.size;(try simp at z_w1);obtain ⟨yw1aa,cw1aa,fw1aa,rw1aa,tw1aa,pw1aa⟩:=bq hb1 (w.heap.size);obtain ⟨yw1ab,cw1ab,fw1ab,rw1ab,tw1ab,pw1ab⟩:=bq hb1 (w.heap.size+1);obtain ⟨y_w1_g,c_w1_g,f_w1_g,r_w1_g,t_w1_g,p_w1_g⟩:=bq hb1 (g)
 go_wp2_with fail
 go_ret
 exact ⟨rfl,w1,below_byR,rfl⟩
theorem ellmay_u (x y a b d:Int) (m:Bool) (h:El.may ⟨x,y,a,b,d⟩=m) (w:World) :
  Calls Tryz.prog 34 #[elC x y a b d] w fun e w'=>e = .returned (.bool m)∧Below w.heap.size w w':=by
 subst h;exact ellmay_c x y a b d w
end Go.Proofs.YtechbdnhalmobaaGreatDoor
