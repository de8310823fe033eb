/- Laws. -/
import Derived.Test.YtilginoibhfeiaaGreatYl
import Derived.Test.YtilginoibhfeiaaGreatIA
set_option maxRecDepth 100000
set_option maxHeartbeats 16000000
namespace Go.Proofs.YtilginoibhfeiaaGreat
open Go.RowKit
theorem mix1_c (x y p q:WI) (g8 g9:Nat) (w:World) (h8:w.row? g8 0 18=some p.cells) (h9:w.row? g9 0 18=some q.cells) :
  Calls Tryz.prog 104 #[.agg x.cells,.agg y.cells,.pointer (some ⟨g8,0,none⟩),.pointer (some ⟨g9,0,none⟩)] w fun e w'=>e = .returned (.agg (sum4 x p y q).cells)∧Below w.heap.size w w':=by
 have l8:=row_lt h8
 have l9:=row_lt h9
 have a1:g8<w.heap.size+1:=by omega
 have a2:g8<w.heap.size+1+1:=by omega
 have a3:g9<w.heap.size+1:=by omega
 have a4:g9<w.heap.size+1+1:=by omega
 go_enter Tryz.func104,Tryz.ntmps104
 go_wp2_with fail
 refine (sum4_c x p y q _ _ (Blk.new' _ _ _ (by simp))).mono ?_;rintro e w1 ⟨rfl,hb1⟩;have z_w1:=hb1.size;(try simp at z_w1);have Kw1aa:=bq hb1 (w.heap.size);have Kw1ab:=bq hb1 (w.heap.size+1);have Kw1ac:=bq hb1 (w.heap.size+1+1)
 go_wp2_with fail
 exact bodyPost_row 18 (sum4 x p y q).cells rfl rfl rfl Tryz.underlying58 rfl info_Int (by go_simp) ⟨rfl,below_byR⟩
theorem mixW_main (a0 a1 a2 a3 a4 a5 a6 b0 b1 b2 b3 b4 b5 b6:WI) (k:Int) (h0:0≤k) (h1:k≤34) (P Q:WI) (hP:(WI.of k).mul b6=P) (hQ:(WI.of (34-k)).mul a6=Q) (w:World) :
  Calls Tryz.prog 40 #[.agg (blk [a0,a1,a2,a3,a4,a5,a6]),.agg (blk [b0,b1,b2,b3,b4,b5,b6]),.int .i64 k] w fun e w'=>e = .returned (.tuple #[.agg (blk [sum4 a0 P b0 Q,sum4 a1 P b1 Q,sum4 a2 P b2 Q,sum4 a3 P b3 Q,sum4 a4 P b4 Q,sum4 a5 P b5 Q,(WI.of 34).mul (a6.mul b6)]),.int .i64 0])∧Below w.heap.size w w':=by
 have K:Hid (I64 k∧I64 (34-k)∧I64 34):=by unfold Hid I64;omega
 have HP:=Lh hP
 have HQ:=Lh hQ
 clear hP hQ
 go_enter Tryz.func40,Tryz.ntmps40
 go_wp2_with fail
 obtain ⟨w3,hw3⟩:∃ w3,w3=((w.alloc (Obj.cells (blk [a0,a1,a2,a3,a4,a5,a6]) 60)).alloc (Obj.cells (blk [b0,b1,b2,b3,b4,b5,b6]) 60)).alloc (Obj.cells (blk [WI.of 0,WI.of 0,WI.of 0,WI.of 0,WI.of 0,WI.of 0,WI.of 0]) 60):=⟨_,rfl⟩
 rw [← hw3]
 have HI:Hid (Blk w3 w.heap.size (blk [a0,a1,a2,a3,a4,a5,a6]) 60):=by rw [hw3];exact ((Blk.new _ _ _).alloc _).alloc _
 have HJ:Hid (Blk w3 (w.heap.size+1) (blk [b0,b1,b2,b3,b4,b5,b6]) 60):=by rw [hw3];exact (Blk.new' _ _ _ (by simp)).alloc _
 have HR:Hid (Blk w3 (w.heap.size+1+1) (blk [WI.of 0,WI.of 0,WI.of 0,WI.of 0,WI.of 0,WI.of 0,WI.of 0]) 60):=by rw [hw3];exact Blk.new' _ _ _ (by simp)
 have hb3:Below w.heap.size w w3:=by rw [hw3];exact below_byR
 have sz3:w3.heap.size=w.heap.size+1+1+1:=by rw [hw3];simp
 clear hw3
 go_cut [8] from 9 (fun s8 wc=>∃ g,s8 = .pointer (some ⟨g,0,none⟩)∧w3.heap.size≤g∧Hid (wc.row? g 0 18=some P.cells)∧Hid (Below w3.heap.size w3 wc))
 case first =>
  have j6:=@inw_row _ _ _ _ _ ((HJ.out.row? 108 18 (by simp)).trans (congrArg some (blk_x6 _ _ _ _ _ _ _ _)))
  refine wp_region_fresh' 6 (fun k=>match k with|5=>some ⟨.cells (cellsI false false 0) 58,fun g => .pointer (some ⟨g,0,none⟩)⟩|_=>none) (fun _=>[]) (by kernel_rfl) (by kernel_rfl) ?_;refine ex_list ?_;apply Exists.intro;refine ex_list ?_;apply Exists.intro;refine ex_list ?_;apply Exists.intro;refine ex_list ?_;apply Exists.intro;refine ex_list ?_;apply Exists.intro;refine ex_list ⟨undef,?_⟩;refine ⟨[],fun gg NN hN=>?_⟩;simp only [List.take_succ_cons,List.take_zero,List.drop_succ_cons,List.drop_zero];(repeat (first|(refine lexF_quiet rfl ?_;go_big_quiet_step (first|exact rfl|(first|(go_at_call 84;exact calls_in (of_c _ K.out.1.1 K.out.1.2 _))|(go_at_call 91;exact calls_in (mul_I _ _ _))));refine wpQuiet_nil ⟨rfl,?_⟩)|(refine lexF_fresh _ (by rfl) (by rfl) ?hex ?_;(case hex=>(intro wx;first|(go_simp;done)|(go_simp;rfl)));simp only [Act.put,List.setIfInBounds_toArray,List.set_cons_succ,List.set_cons_zero])))
  refine lexF_nil ?_
  intro w4 hb4' hh _
  have hb4:Below w3.heap.size w3 w4:=hb4'
  obtain ⟨l8,e8⟩:=hh 5 _ (by decide) rfl
  clear hh hb4'
  have G8:Hid (Blk w4 (gg 5) (cellsI false false 0) 58):=e8
  rw [HP.out]
  have hp8:w4.put? (gg 5) 0 P.cells=some (w4.putRow (gg 5) 0 P.cells):=G8.out.put? 0 _ (by simp) (by simp)
  clear e8 j6
  go_wp2_with fail
  go_meet
  exact ⟨gg 5,rfl,l8,row_put hp8 (by simp),Below_putRow hb4 l8 _ _⟩
 case rest =>
  obtain ⟨g8,rfl,l8,r8,HB4⟩:=hcut
  have hb4:=HB4.out
  have HI2:=Lh (HI.out.keep hb4)
  have HJ2:=Lh (HJ.out.keep hb4)
  have HR2:=Lh (HR.out.keep hb4)
  go_wp2_with fail
  go_cut [9] from 10 (fun s9 we=>∃ g,s9 = .pointer (some ⟨g,0,none⟩)∧w3.heap.size≤g∧Hid (we.row? g 0 18=some Q.cells)∧Hid (Below wc.heap.size wc we))
  case first =>
   have i6:=@inw_row _ _ _ _ _ ((HI2.out.row? 108 18 (by simp)).trans (congrArg some (blk_x6 _ _ _ _ _ _ _ _)))
   refine wp_region_fresh' 7 (fun k=>match k with|6=>some ⟨.cells (cellsI false false 0) 58,fun g => .pointer (some ⟨g,0,none⟩)⟩|_=>none) (fun _=>[]) (by kernel_rfl) (by kernel_rfl) ?_;refine ex_list ?_;apply Exists.intro;refine ex_list ?_;apply Exists.intro;refine ex_list ?_;apply Exists.intro;refine ex_list ?_;apply Exists.intro;refine ex_list ?_;apply Exists.intro;refine ex_list ?_;apply Exists.intro;refine ex_list ⟨undef,?_⟩;refine ⟨[],fun gg NN hN=>?_⟩;simp only [List.take_succ_cons,List.take_zero,List.drop_succ_cons,List.drop_zero];(repeat (first|(refine lexF_quiet rfl ?_;go_big_quiet_step (first|exact rfl|(first|(go_at_call 84;exact calls_in (of_c _ K.out.2.1.1 K.out.2.1.2 _))|(go_at_call 91;exact calls_in (mul_I _ _ _))));refine wpQuiet_nil ⟨rfl,?_⟩)|(refine lexF_fresh _ (by rfl) (by rfl) ?hex ?_;(case hex=>(intro wx;first|(go_simp;done)|(go_simp;rfl)));simp only [Act.put,List.setIfInBounds_toArray,List.set_cons_succ,List.set_cons_zero])))
   refine lexF_nil ?_
   intro w4 hb5' hh _
   have hb5:Below wc.heap.size wc w4:=hb5'
   obtain ⟨l9,e9⟩:=hh 6 _ (by decide) rfl
   clear hh hb5'
   have G9:Hid (Blk w4 (gg 6) (cellsI false false 0) 58):=e9
   rw [HQ.out]
   have hp9:w4.put? (gg 6) 0 Q.cells=some (w4.putRow (gg 6) 0 Q.cells):=G9.out.put? 0 _ (by simp) (by simp)
   clear e9 i6
   go_wp2_with fail
   go_meet
   exact ⟨gg 6,rfl,Nat.le_trans hb4.size l9,row_put hp9 (by simp),Below_putRow hb5 l9 _ _⟩
  case rest =>
   obtain ⟨g9,rfl,l9,r9,HB5⟩:=hcut
   have hb5:=HB5.out
   have HI3:=Lh (HI2.out.keep hb5)
   have HJ3:=Lh (HJ2.out.keep hb5)
   have HR3:=Lh (HR2.out.keep hb5)
   have hbw:Below w3.heap.size w3 wc:=Below.trans hb4 (hb5.mono hb4.size)
   have k8:=@inw_row _ _ _ _ _ ((Below.row? hb5 g8 0 18 (row_lt r8.out)).trans r8.out)
   have k9:=@inw_row _ _ _ _ _ r9.out
   have i0:=@inw_row _ _ _ _ _ ((HI3.out.row? 0 18 (by simp)).trans (congrArg some (blk_x0 _ _)));have i1:=@inw_row _ _ _ _ _ ((HI3.out.row? 18 18 (by simp)).trans (congrArg some (blk_x1 _ _ _)));have i2:=@inw_row _ _ _ _ _ ((HI3.out.row? 36 18 (by simp)).trans (congrArg some (blk_x2 _ _ _ _)));have i3:=@inw_row _ _ _ _ _ ((HI3.out.row? 54 18 (by simp)).trans (congrArg some (blk_x3 _ _ _ _ _)));have i4:=@inw_row _ _ _ _ _ ((HI3.out.row? 72 18 (by simp)).trans (congrArg some (blk_x4 _ _ _ _ _ _)));have i5:=@inw_row _ _ _ _ _ ((HI3.out.row? 90 18 (by simp)).trans (congrArg some (blk_x5 _ _ _ _ _ _ _)));have i6:=@inw_row _ _ _ _ _ ((HI3.out.row? 108 18 (by simp)).trans (congrArg some (blk_x6 _ _ _ _ _ _ _ _)))
   have j0:=@inw_row _ _ _ _ _ ((HJ3.out.row? 0 18 (by simp)).trans (congrArg some (blk_x0 _ _)));have j1:=@inw_row _ _ _ _ _ ((HJ3.out.row? 18 18 (by simp)).trans (congrArg some (blk_x1 _ _ _)));have j2:=@inw_row _ _ _ _ _ ((HJ3.out.row? 36 18 (by simp)).trans (congrArg some (blk_x2 _ _ _ _)));have j3:=@inw_row _ _ _ _ _ ((HJ3.out.row? 54 18 (by simp)).trans (congrArg some (blk_x3 _ _ _ _ _)));have j4:=@inw_row _ _ _ _ _ ((HJ3.out.row? 72 18 (by simp)).trans (congrArg some (blk_x4 _ _ _ _ _ _)));have j5:=@inw_row _ _ _ _ _ ((HJ3.out.row? 90 18 (by simp)).trans (congrArg some (blk_x5 _ _ _ _ _ _ _)));have j6:=@inw_row _ _ _ _ _ ((HJ3.out.row? 108 18 (by simp)).trans (congrArg some (blk_x6 _ _ _ _ _ _ _ _)))
   go_wp2_with fail
   refine wp_region_fresh' 44 (fun _=>none) (fun _=>[]) (by kernel_rfl) (by kernel_rfl) ?_;refine ex_list ?_;apply Exists.intro;refine ex_list ?_;apply Exists.intro;refine ex_list ?_;apply Exists.intro;refine ex_list ?_;apply Exists.intro;refine ex_list ?_;apply Exists.intro;refine ex_list ?_;apply Exists.intro;refine ex_list ?_;apply Exists.intro;refine ex_list ?_;apply Exists.intro;refine ex_list ?_;apply Exists.intro;refine ex_list ?_;apply Exists.intro;refine ex_list ?_;apply Exists.intro;refine ex_list ?_;apply Exists.intro;refine ex_list ?_;apply Exists.intro;refine ex_list ?_;apply Exists.intro;refine ex_list ?_;apply Exists.intro;refine ex_list ?_;apply Exists.intro;refine ex_list ?_;apply Exists.intro;refine ex_list ?_;apply Exists.intro;refine ex_list ?_;apply Exists.intro;refine ex_list ?_;apply Exists.intro;refine ex_list ?_;apply Exists.intro;refine ex_list ?_;apply Exists.intro;refine ex_list ?_;apply Exists.intro;refine ex_list ?_;apply Exists.intro;refine ex_list ?_;apply Exists.intro;refine ex_list ?_;apply Exists.intro;refine ex_list ?_;apply Exists.intro;refine ex_list ?_;apply Exists.intro;refine ex_list ?_;apply Exists.intro;refine ex_list ?_;apply Exists.intro;refine ex_list ?_;apply Exists.intro;refine ex_list ?_;apply Exists.intro;refine ex_list ?_;apply Exists.intro;refine ex_list ?_;apply Exists.intro;refine ex_list ?_;apply Exists.intro;refine ex_list ?_;apply Exists.intro;refine ex_list ?_;apply Exists.intro;refine ex_list ?_;apply Exists.intro;refine ex_list ?_;apply Exists.intro;refine ex_list ?_;apply Exists.intro;refine ex_list ?_;apply Exists.intro;refine ex_list ?_;apply Exists.intro;refine ex_list ?_;apply Exists.intro;refine ex_list ?_;apply Exists.intro;refine ⟨[],fun gg NN hN=>?_⟩;simp only [List.take_succ_cons,List.take_zero,List.drop_succ_cons,List.drop_zero];(repeat (refine lexF_quiet rfl ?_;go_big_quiet_step (first|exact rfl|(first|(go_at_call 91;exact calls_in (mul_I _ _ _))|(go_at_call 104;rename_i px;exact calls_in (mix1_c _ _ P Q g8 g9 _ (k8 px) (k9 px)))|(go_at_call 84;exact calls_in (of_c _ K.out.2.2.1 K.out.2.2.2 _))));refine wpQuiet_nil ⟨rfl,?_⟩))
   refine lexF_nil ?_
   intro w8 hb8' _ _
   have hb8:Below wc.heap.size wc w8:=hb8'
   clear hb8' k8 k9 i0 j0 i1 j1 i2 j2 i3 j3 i4 j4 i5 j5 i6 j6
   have HR4:=Lh (HR3.out.keep hb8)
   have hpR:=HR4.out.put? 0 (blk [sum4 a0 P b0 Q,sum4 a1 P b1 Q,sum4 a2 P b2 Q,sum4 a3 P b3 Q,sum4 a4 P b4 Q,sum4 a5 P b5 Q,(WI.of 34).mul (a6.mul b6)]) (by simp) (by simp)
   have rR:=row_put hpR (n:=126) (by simp)
   have hbe:Below w.heap.size w w8:=Below.trans hb3 ((Below.trans hbw (hb8.mono hbw.size)).mono hb3.size)
   go_wp2_with fail
   exact bodyPost_row_t 126 _ (.int .i64 0) rfl rfl rfl rfl Tryz.underlying60 rfl info_Info rR ⟨rfl,Below_putRow hbe (by omega) _ _⟩
theorem mixW_bad (a0 a1 a2 a3 a4 a5 a6 b0 b1 b2 b3 b4 b5 b6:WI) (k:Int) (h:k<0∨34<k) (w:World) :
  Calls Tryz.prog 40 #[.agg (blk [a0,a1,a2,a3,a4,a5,a6]),.agg (blk [b0,b1,b2,b3,b4,b5,b6]),.int .i64 k] w fun e w'=>e = .returned (.tuple #[.agg (blk [WI.of 0,WI.of 0,WI.of 0,WI.of 0,WI.of 0,WI.of 0,WI.of 0]),.int .i64 1])∧Below w.heap.size w w':=by
 by_cases h1:k<0
 ·clear h
  go_enter Tryz.func40,Tryz.ntmps40
  go_wp2_with fail
  exact bodyPost_row_t 126 (blk [WI.of 0,WI.of 0,WI.of 0,WI.of 0,WI.of 0,WI.of 0,WI.of 0]) (.int .i64 1) rfl rfl rfl rfl Tryz.underlying60 rfl info_Info (by go_simp) ⟨rfl,below_byR⟩
 ·have h2:34<k:=by omega
  clear h
  go_enter Tryz.func40,Tryz.ntmps40
  go_wp2_with fail
  exact bodyPost_row_t 126 (blk [WI.of 0,WI.of 0,WI.of 0,WI.of 0,WI.of 0,WI.of 0,WI.of 0]) (.int .i64 1) rfl rfl rfl rfl Tryz.underlying60 rfl info_Info (by go_simp) ⟨rfl,below_byR⟩
def mixI (i j:Iq) (k:Int):Iq:=⟨i.A*(k*j.N)+j.A*((34-k)*i.N),i.B*(k*j.N)+j.B*((34-k)*i.N),i.D*(k*j.N)+j.D*((34-k)*i.N),i.U*(k*j.N)+j.U*((34-k)*i.N),
 i.V*(k*j.N)+j.V*((34-k)*i.N),i.Z*(k*j.N)+j.Z*((34-k)*i.N),34*(i.N*j.N)⟩
def mixQ (i j:Iq) (k:Int):Iq × Int:=if 0≤k∧k≤34 then (mixI i j k,0) else (Iq.zero,1)
structure Iq.Sml (n:Nat) (i:Iq):Prop where
 A:Sm n i.A
 B:Sm n i.B
 D:Sm n i.D
 U:Sm n i.U
 V:Sm n i.V
 Z:Sm n i.Z
 N:Sm n i.N
theorem mix_c (i j:Iq) (hi:i.Sml 120) (hj:j.Sml 120) (k:Int) (w:World) :
  Calls Tryz.prog 40 #[iqV i,iqV j,.int .i64 k] w fun e w'=>e = .returned (.tuple #[iqV (mixQ i j k).1,.int .i64 (mixQ i j k).2])∧Below w.heap.size w w':=by
 by_cases h:0≤k∧k≤34
 ·have e:mixQ i j k=(mixI i j k,0):=by unfold mixQ;rw [if_pos h]
  have kk:Sm 120 k:=(Sm.of64 (by omega) (by omega)).mono (by decide)
  have k2:Sm 120 (34-k):=(Sm.of64 (by omega) (by omega)).mono (by decide)
  have k3:Sm 120 34:=(Sm.of64 (by decide) (by decide)).mono (by decide)
  have hP:(WI.of k).mul (WI.of j.N)=WI.of (k*j.N):=WI.of_mul (kk.lim (by decide)) (hj.N.lim (by decide))
  have hQ:(WI.of (34-k)).mul (WI.of i.N)=WI.of ((34-k)*i.N):=WI.of_mul (k2.lim (by decide)) (hi.N.lim (by decide))
  have sP:=kk.mul hj.N
  have sQ:=k2.mul hi.N
  have key:∀ a b,Sm 120 a→Sm 120 b→sum4 (WI.of a) (WI.of (k*j.N)) (WI.of b) (WI.of ((34-k)*i.N))=WI.of (a*(k*j.N)+b*((34-k)*i.N)):=fun a b ha hb =>
   sum4_of (j:=240) _ _ _ _ (ha.mono (by decide)) sP (hb.mono (by decide)) sQ (by decide)
  have hN:(WI.of 34).mul ((WI.of i.N).mul (WI.of j.N))=WI.of (34*(i.N*j.N)):=by
   rw [WI.of_mul (hi.N.lim (by decide)) (hj.N.lim (by decide)),WI.of_mul (k3.lim (by decide)) ((hi.N.mul hj.N).lim (by decide))]
  have:=mixW_main (WI.of i.A) (WI.of i.B) (WI.of i.D) (WI.of i.U) (WI.of i.V) (WI.of i.Z) (WI.of i.N) (WI.of j.A) (WI.of j.B) (WI.of j.D) (WI.of j.U) (WI.of j.V) (WI.of j.Z) (WI.of j.N) k h.1 h.2 _ _ hP hQ w
  rw [key _ _ hi.A hj.A,key _ _ hi.B hj.B,key _ _ hi.D hj.D,key _ _ hi.U hj.U,key _ _ hi.V hj.V,key _ _ hi.Z hj.Z,hN] at this
  rw [e];exact this
 ·have e:mixQ i j k=(Iq.zero,1):=by unfold mixQ;rw [if_neg h]
  rw [e]
  exact mixW_bad _ _ _ _ _ _ _ _ _ _ _ _ _ _ k (by omega) w
open Go.RowKit
def overB (l:List WI):Bool:=l.any (·.ov)
theorem blk_row {w:World} {g:Nat} {l:List WI} {t:TypeId} (h:Blk w g (blk l) t) (k:Nat) (x:WI) (hx:l[k]? = some x):w.row? g (18*k) 18=some x.cells:=by
 have hk:k<l.length:=(List.getElem?_eq_some_iff.1 hx).1
 rw [h.row? (18*k) 18 (by rw [blk_size];omega),blk_at l k x hx]
theorem over_v (x:WI) (b:Bool) (h:x.ov=b) (w:World) :
  Calls Tryz.prog 173 #[.agg x.cells] w fun e w'=>e = .returned (.bool b)∧Below w.heap.size w w':=by
 subst h;exact over_I x w
theorem over_c (l:List WI) (g:Nat) (w:World) (hl:l.length≤1000) (hall:overB l=false) (hg:w.heap[g]? = some (.cells (blk l) 58 (0,0))) :
  Calls Tryz.prog 111 #[.slice (some ⟨g,0,none⟩) l.length l.length] w fun e w'=>e = .returned (.bool false)∧Below w.heap.size w w':=by
 have HG:Hid (Blk w g (blk l) 58):=hg
 have HA:=Lh hall
 have lg:=HG.out.lt
 clear hg hall
 go_enter Tryz.func111,Tryz.ntmps111
 go_wp2
 go_loopw [7] (fun i wr=>∃ k:Nat,k≤l.length∧i = .int .i64 k∧Hid (Below w.heap.size w wr)) (fun i _=>l.length-(intOf i).toNat)
 case atStart=>exact ⟨0,by omega,rfl,Below.refl _ _⟩
 case round =>
  obtain ⟨k,hk,rfl,HB⟩:=hrel
  by_cases hlt:k<l.length
  ·obtain ⟨x,hx⟩:∃ x,l[k]? = some x:=⟨_,List.getElem?_eq_getElem hlt⟩
   have hx0:Hid (x.ov=false):=by
    have h:=HA.out
    unfold overB at h
    rw [List.any_eq_false] at h
    have:=h x (List.mem_of_getElem? hx)
    show x.ov=false
    simpa using this
   have g1:=blk_row (HG.out.keep HB.out) k x hx
   have g2:wr.row? g (k*18) 18=some x.cells:=by rw [Nat.mul_comm];exact g1
   have hb:=HB.out
   have hk1:(k:Int)<(l.length:Int):=by omega
   have hk0:(0:Int)≤k:=by omega
   clear g1
   go_wp2_with fail
   refine (over_v _ _ hx0.out _).mono ?_;rintro e w1 ⟨rfl,hb1⟩
   have s1:=hb.size
   go_wp2_with fail
   refine ⟨⟨k+1,by omega,by go_num,?_⟩,by simp [intOf];omega⟩
   exact (show Below _ _ _ from below_byR)
  ·have hk2:¬ (k:Int)<(l.length:Int):=by omega
   go_wp2_with fail
   go_ret
   exact ⟨rfl,HB.out⟩
theorem any_c (a0 a1 a2 a3 a4 a5 a6:WI) (hall:overB [a0,a1,a2,a3,a4,a5,a6]=false) (w:World) :
  Calls Tryz.prog 97 #[.agg (blk [a0,a1,a2,a3,a4,a5,a6])] w fun e w'=>e = .returned (.bool false)∧Below w.heap.size w w':=by
 have HA:=Lh hall
 clear hall
 go_enter Tryz.func97,Tryz.ntmps97
 go_wp2_with fail
 refine (over_c [a0,a1,a2,a3,a4,a5,a6] _ _ (by simp) HA.out (Blk.new' _ _ _ (by simp))).mono ?_;rintro e w1 ⟨rfl,hb1⟩
 have s1:=hb1.size;simp at s1
 go_wp2_with fail
 go_ret
 exact ⟨rfl,below_byR⟩
def levW (a0 a1 a2 a3 a4 a5 a6 d:WI):WI:=((a6.sub a5).mul d).add ((sum4 a2 (a3.mul a3) a0 (a4.mul a4)).add ((WI.of 2).mul (a1.mul (a3.mul a4))).neg)
theorem two_1:Hid (-9223372036854775808≤(2:Int)∧(2:Int)≤9223372036854775807):=⟨by decide,by decide⟩
theorem level_c (a0 a1 a2 a3 a4 a5 a6 d:WI) (w:World) :
  Calls Tryz.prog 109 #[.agg (blk [a0,a1,a2,a3,a4,a5,a6]),.agg d.cells] w fun e w'=>e = .returned (.agg (levW a0 a1 a2 a3 a4 a5 a6 d).cells)∧Below w.heap.size w w':=by
 go_enter Tryz.func109,Tryz.ntmps109
 go_wp2_with fail
 obtain ⟨wc,hw3⟩:∃ w3,w3=((w.alloc (Obj.cells (blk [a0,a1,a2,a3,a4,a5,a6]) 60)).alloc (Obj.cells d.cells 58)).alloc (Obj.cells (cellsI false false 0) 58):=⟨_,rfl⟩
 rw [← hw3]
 have HI:Hid (Blk wc w.heap.size (blk [a0,a1,a2,a3,a4,a5,a6]) 60):=by rw [hw3];exact ((Blk.new _ _ _).alloc _).alloc _
 have r3:Hid (wc.row? (w.heap.size+1) 0 18=some d.cells):=by
  have:Blk wc (w.heap.size+1) d.cells 58:=by rw [hw3];exact (Blk.new' _ _ _ (by simp)).alloc _
  exact this.row?_all 18 (by simp)
 have HR:Hid (Blk wc (w.heap.size+1+1) (cellsI false false 0) 58):=by rw [hw3];exact Blk.new' _ _ _ (by simp)
 have hbw:Below w.heap.size w wc:=by rw [hw3];exact below_byR
 clear hw3
 go_cut [5] from 6 (fun s5 we=>∃ g5,s5 = .pointer (some ⟨g5,0,none⟩)∧w.heap.size≤g5∧Hid (we.row? g5 0 18=some (sum4 a2 (a3.mul a3) a0 (a4.mul a4)).cells)∧Hid (Below wc.heap.size wc we))
 case first =>
  have i0:=@inw_row _ _ _ _ _ ((HI.out.row? 0 18 (by simp)).trans (congrArg some (blk_x0 _ _)))
  have i2:=@inw_row _ _ _ _ _ ((HI.out.row? 36 18 (by simp)).trans (congrArg some (blk_x2 _ _ _ _)))
  have i3:=@inw_row _ _ _ _ _ ((HI.out.row? 54 18 (by simp)).trans (congrArg some (blk_x3 _ _ _ _ _)))
  have i4:=@inw_row _ _ _ _ _ ((HI.out.row? 72 18 (by simp)).trans (congrArg some (blk_x4 _ _ _ _ _ _)))
  refine wp_region_fresh' 17 (fun k=>match k with|14=>some ⟨.cells (blk [a2,a3.mul a3,a0,a4.mul a4]) 58,fun g => .slice (some ⟨g,0,none⟩) 4 4⟩|16=>some ⟨.cells (cellsI false false 0) 58,fun g => .pointer (some ⟨g,0,none⟩)⟩|_=>none) (fun k=>match k with|15=>[14]|_=>[]) (by kernel_rfl) (by kernel_rfl) ?_;refine ex_list ?_;apply Exists.intro;refine ex_list ?_;apply Exists.intro;refine ex_list ?_;apply Exists.intro;refine ex_list ?_;apply Exists.intro;refine ex_list ?_;apply Exists.intro;refine ex_list ?_;apply Exists.intro;refine ex_list ?_;apply Exists.intro;refine ex_list ?_;apply Exists.intro;refine ex_list ?_;apply Exists.intro;refine ex_list ?_;apply Exists.intro;refine ex_list ?_;apply Exists.intro;refine ex_list ?_;apply Exists.intro;refine ex_list ?_;apply Exists.intro;refine ex_list ?_;apply Exists.intro;refine ex_list ⟨undef,?_⟩;refine ex_list ?_;apply Exists.intro;refine ex_list ⟨undef,?_⟩;refine ⟨[],fun gg NN hN=>?_⟩;simp only [List.take_succ_cons,List.take_zero,List.drop_succ_cons,List.drop_zero];(repeat (first|(refine lexF_quiet rfl ?_;go_big_quiet_step (first|exact rfl|(first|(go_at_call 91;exact calls_in (mul_I _ _ _))|(go_at_call 86;rename_i px;exact calls_in (sum4_c _ _ _ _ _ _ (px.has 14 (hN 15 14 (by simp)) _ rfl).2))));refine wpQuiet_nil ⟨rfl,?_⟩)|(refine lexF_fresh _ (by rfl) (by rfl) ?hex ?_;(case hex=>(intro wx;first|(go_simp;done)|(go_simp;rfl)));simp only [Act.put,List.setIfInBounds_toArray,List.set_cons_succ,List.set_cons_zero])))
  refine lexF_nil ?_
  intro wn hbn' hh hd
  have hbn:Below wc.heap.size wc wn:=hbn'
  obtain ⟨l5,e5⟩:=hh 16 _ (by decide) rfl
  have G5:Hid (Blk wn (gg 16) (cellsI false false 0) 58):=e5
  have hp5:(wn).put? (gg 16) 0 (sum4 a2 (a3.mul a3) a0 (a4.mul a4)).cells=some ((wn).putRow (gg 16) 0 (sum4 a2 (a3.mul a3) a0 (a4.mul a4)).cells):=(G5.out).put? 0 _ (by simp) (by simp)
  clear hh hd hbn' e5 i0 i2 i3 i4
  go_wp2_with fail
  go_meet
  refine ⟨gg 16,rfl,Nat.le_trans hbw.size l5,?_,(Below_putRow hbn l5 _ _)⟩
  ·show _=_;rw [(((G5.out).putRow_same 0 (sum4 a2 (a3.mul a3) a0 (a4.mul a4)).cells)).row? 0 18 (by simp)];simp
 case rest =>
  obtain ⟨g5,rfl,l5,r5,HBN⟩:=hcut
  have hbn:=HBN.out
  have hbw2:=Below.trans hbw (hbn.mono hbw.size)
  clear hbw
  have hbw:=hbw2
  clear hbw2
  have HI2:=Lh (HI.out.keep hbn)
  clear HI
  have HI:=HI2
  clear HI2
  have r3:=Lh ((Below.row? hbn _ 0 18 (row_lt r3.out)).trans r3.out)
  have HR2:=Lh (HR.out.keep hbn)
  clear HR
  have HR:=HR2
  clear HR2
  clear hbn HBN
  go_wp2_with fail
  go_cut [6] from 7 (fun s6 we=>∃ g6,s6 = .pointer (some ⟨g6,0,none⟩)∧w.heap.size≤g6∧Hid (we.row? g6 0 18=some ((WI.of 2).mul (a1.mul (a3.mul a4))).cells)∧Hid (Below wc.heap.size wc we))
  case first =>
   have i1:=@inw_row _ _ _ _ _ ((HI.out.row? 18 18 (by simp)).trans (congrArg some (blk_x1 _ _ _)))
   have i3:=@inw_row _ _ _ _ _ ((HI.out.row? 54 18 (by simp)).trans (congrArg some (blk_x3 _ _ _ _ _)))
   have i4:=@inw_row _ _ _ _ _ ((HI.out.row? 72 18 (by simp)).trans (congrArg some (blk_x4 _ _ _ _ _ _)))
   refine wp_region_fresh' 11 (fun k=>match k with|10=>some ⟨.cells (cellsI false false 0) 58,fun g => .pointer (some ⟨g,0,none⟩)⟩|_=>none) (fun _=>[]) (by kernel_rfl) (by kernel_rfl) ?_;refine ex_list ?_;apply Exists.intro;refine ex_list ?_;apply Exists.intro;refine ex_list ?_;apply Exists.intro;refine ex_list ?_;apply Exists.intro;refine ex_list ?_;apply Exists.intro;refine ex_list ?_;apply Exists.intro;refine ex_list ?_;apply Exists.intro;refine ex_list ?_;apply Exists.intro;refine ex_list ?_;apply Exists.intro;refine ex_list ?_;apply Exists.intro;refine ex_list ⟨undef,?_⟩;refine ⟨[],fun gg NN hN=>?_⟩;simp only [List.take_succ_cons,List.take_zero,List.drop_succ_cons,List.drop_zero];(repeat (first|(refine lexF_quiet rfl ?_;go_big_quiet_step (first|exact rfl|(first|(go_at_call 91;exact calls_in (mul_I _ _ _))|(go_at_call 84;exact calls_in (of_c _ two_1.out.1 two_1.out.2 _))));refine wpQuiet_nil ⟨rfl,?_⟩)|(refine lexF_fresh _ (by rfl) (by rfl) ?hex ?_;(case hex=>(intro wx;first|(go_simp;done)|(go_simp;rfl)));simp only [Act.put,List.setIfInBounds_toArray,List.set_cons_succ,List.set_cons_zero])))
   refine lexF_nil ?_
   intro wn hbn' hh hd
   have hbn:Below wc.heap.size wc wn:=hbn'
   obtain ⟨l6,e6⟩:=hh 10 _ (by decide) rfl
   have G6:Hid (Blk wn (gg 10) (cellsI false false 0) 58):=e6
   have hp6:(wn).put? (gg 10) 0 ((WI.of 2).mul (a1.mul (a3.mul a4))).cells=some ((wn).putRow (gg 10) 0 ((WI.of 2).mul (a1.mul (a3.mul a4))).cells):=(G6.out).put? 0 _ (by simp) (by simp)
   clear hh hd hbn' e6 i1 i3 i4
   go_wp2_with fail
   go_meet
   refine ⟨gg 10,rfl,Nat.le_trans hbw.size l6,?_,(Below_putRow hbn l6 _ _)⟩
   ·show _=_;rw [(((G6.out).putRow_same 0 ((WI.of 2).mul (a1.mul (a3.mul a4))).cells)).row? 0 18 (by simp)];simp
  case rest =>
   obtain ⟨g6,rfl,l6,r6,HBN⟩:=hcut
   have hbn:=HBN.out
   have hbw2:=Below.trans hbw (hbn.mono hbw.size)
   clear hbw
   have hbw:=hbw2
   clear hbw2
   have HI2:=Lh (HI.out.keep hbn)
   clear HI
   have HI:=HI2
   clear HI2
   have r5:=Lh ((Below.row? hbn g5 0 18 (row_lt r5.out)).trans r5.out)
   have r3:=Lh ((Below.row? hbn _ 0 18 (row_lt r3.out)).trans r3.out)
   have HR2:=Lh (HR.out.keep hbn)
   clear HR
   have HR:=HR2
   clear HR2
   clear hbn HBN
   have i5:=@inw_row _ _ _ _ _ ((HI.out.row? 90 18 (by simp)).trans (congrArg some (blk_x5 _ _ _ _ _ _ _)))
   have i6:=@inw_row _ _ _ _ _ ((HI.out.row? 108 18 (by simp)).trans (congrArg some (blk_x6 _ _ _ _ _ _ _ _)))
   have k3:=@inw_row _ _ _ _ _ r3.out
   have k5:=@inw_row _ _ _ _ _ r5.out
   have k6:=@inw_row _ _ _ _ _ r6.out
   go_wp2_with fail
   refine wp_region_fresh' 12 (fun _=>none) (fun _=>[]) (by kernel_rfl) (by kernel_rfl) ?_;refine ex_list ?_;apply Exists.intro;refine ex_list ?_;apply Exists.intro;refine ex_list ?_;apply Exists.intro;refine ex_list ?_;apply Exists.intro;refine ex_list ?_;apply Exists.intro;refine ex_list ?_;apply Exists.intro;refine ex_list ?_;apply Exists.intro;refine ex_list ?_;apply Exists.intro;refine ex_list ?_;apply Exists.intro;refine ex_list ?_;apply Exists.intro;refine ex_list ?_;apply Exists.intro;refine ex_list ?_;apply Exists.intro;refine ⟨[],fun gg NN hN=>?_⟩;simp only [List.take_succ_cons,List.take_zero,List.drop_succ_cons,List.drop_zero];(repeat (refine lexF_quiet rfl ?_;go_big_quiet_step (first|exact rfl|(first|(go_at_call 91;exact calls_in (mul_I _ _ _))|(go_at_call 98;exact calls_in (add_I _ _ _))|(go_at_call 99;exact calls_in (sub_I _ _ _))|(go_at_call 110;exact calls_in (neg_I _ _))));refine wpQuiet_nil ⟨rfl,?_⟩))
   refine lexF_nil ?_
   intro w8 hb8' _ _
   have hb8:Below wc.heap.size wc w8:=hb8'
   clear hb8' i5 i6 k3 k5 k6
   have HR4:=Lh (HR.out.keep hb8)
   have hpR:=HR4.out.put? 0 (levW a0 a1 a2 a3 a4 a5 a6 d).cells (by simp) (by simp)
   have rR:=row_put hpR (n:=18) (by simp)
   have hbe:Below w.heap.size w w8:=Below.trans hbw (hb8.mono hbw.size)
   unfold levW at hpR rR
   go_wp2_with fail
   exact bodyPost_row 18 _ rfl rfl rfl Tryz.underlying58 rfl info_Int rR ⟨rfl,Below_putRow hbe (by omega) _ _⟩
open Go.RowKit
theorem i64_0:I64 0:=⟨by decide,by decide⟩
theorem WI.i64_i64 (x:WI):I64 x.i64.1:=by
 unfold WI.i64
 split
 ·split
  ·rename_i h;exact h
  ·exact i64_0
 ·exact i64_0
theorem narrowV_i64 (x:WI) (e:Int):I64 (narrowV x e).1:=by
 unfold narrowV
 split
 ·exact i64_0
 ·split
  ·exact x.i64_i64
  ·exact i64_0
theorem floorV_i64 (x y:WI):I64 (floorV x y).1:=by
 unfold floorV;split
 ·exact i64_0
 ·exact narrowV_i64 _ _
theorem ceilV_i64 (x y:WI):I64 (ceilV x y).1:=by
 unfold ceilV;split
 ·exact i64_0
 ·exact narrowV_i64 _ _
@[go_sem] theorem row?_setCell_other {w : World} {g i : Nat} {v : Value} {b o n : Nat} (h : b ≠ g) : (w.setCell ⟨g, i, none⟩ v).row? b o n = w.row? b o n := by
  unfold World.row?;rw [heap_setCell_other _ _ _ _ h]
@[go_sem] theorem fits_setCell_other {w : World} {g i : Nat} {v : Value} {b n : Nat} (h : b ≠ g) : (w.setCell ⟨g, i, none⟩ v).fits b n = w.fits b n := by
  unfold World.fits;rw [heap_setCell_other _ _ _ _ h]
theorem near_v (x y:WI) (n e:Int) (h:nearV x y=(n,e)) (w:World) :
  Calls Tryz.prog 113 #[.agg x.cells,.agg y.cells] w fun r w'=>r = .returned (.tuple #[.int .i64 n,.int .i64 e])∧Below w.heap.size w w':=by
 have:=near_c x y w
 rw [h] at this;exact this
theorem ceil_v (x y:WI) (n e:Int) (h:ceilV x y=(n,e)) (w:World) :
  Calls Tryz.prog 114 #[.agg x.cells,.agg y.cells] w fun r w'=>r = .returned (.tuple #[.int .i64 n,.int .i64 e])∧Below w.heap.size w w':=by
 have:=ceil_c x y w
 rw [h] at this;exact this
theorem floor_v (x y:WI) (n e:Int) (h:floorV x y=(n,e)) (w:World) :
  Calls Tryz.prog 115 #[.agg x.cells,.agg y.cells] w fun r w'=>r = .returned (.tuple #[.int .i64 n,.int .i64 e])∧Below w.heap.size w w':=by
 have:=floor_c x y w
 rw [h] at this;exact this
theorem fnNear:∀ args w,Sem.run Tryz.prog (callFunc 113 args) w = .ok (.enter 113 args) w:=by intro args w;rfl
theorem fnCeil:∀ args w,Sem.run Tryz.prog (callFunc 114 args) w = .ok (.enter 114 args) w:=by intro args w;rfl
theorem fnFloor:∀ args w,Sem.run Tryz.prog (callFunc 115 args) w = .ok (.enter 115 args) w:=by intro args w;rfl
def ellEnd (cx cy a b d e:Int):El × Int :=
 if e≠0∨70368744177664≤a∨70368744177664≤d then (El.zero,2)
 else if El.may ⟨cx,cy,a+1,b,d+1⟩=true then growE ⟨cx,cy,a+1,b,d+1⟩ 1 else (El.zero,2)
theorem part2_c (fn:FuncId) (x y:WI) (n e bad:Int) (g:Nat) (w:World) (hfn:∀ args w,Sem.run Tryz.prog (callFunc fn args) w = .ok (.enter fn args) w)
  (H:∀ w,Calls Tryz.prog fn #[.agg x.cells,.agg y.cells] w fun r w'=>r = .returned (.tuple #[.int .i64 n,.int .i64 e])∧Below w.heap.size w w')
  (c0:w.cell? ⟨g,0,none⟩=some (.int .i64 bad)) (f0:w.frozen? ⟨g,0,none⟩=false) :
  Calls Tryz.prog 112 #[.func (.func fn) #[] #[],.agg x.cells,.agg y.cells,.pointer (some ⟨g,0,none⟩)] w
   fun r w'=>r = .returned (.int .i64 n)∧∃ w1,Below w.heap.size w w1∧w'=w1.setCell ⟨g,0,none⟩ (.int .i64 (max bad e)):=by
 have HH:=Lh H
 have lg:g<w.heap.size:=block_lt_of_cell c0
 have a1:g<w.heap.size+1:=by omega
 clear H
 go_enter Tryz.func112,Tryz.ntmps112
 go_wp2_with fail
 refine (HH.out _).mono ?_;rintro e' w1 ⟨rfl,hb1⟩;have z_w1:=hb1.size;(try simp at z_w1);have Kw1aa:=bq hb1 (w.heap.size);have Kw1ab:=bq hb1 (w.heap.size+1);have K_w1_g:=bq hb1 (g)
 go_wp2_with fail
 go_ret
 exact ⟨rfl,w1,below_byR,rfl⟩
theorem part2_q (fn:FuncId) (x y:WI) (n:Int) (g:Nat) (w:World) (hfn:∀ args w,Sem.run Tryz.prog (callFunc fn args) w = .ok (.enter fn args) w)
  (H:∀ w,Calls Tryz.prog fn #[.agg x.cells,.agg y.cells] w fun r w'=>r = .returned (.tuple #[.int .i64 n,.int .i64 0])∧Below w.heap.size w w')
  (hg:w.heap[g]? = some (.cells #[.int .i64 0] 28 (0,0))) :
  Calls Tryz.prog 112 #[.func (.func fn) #[] #[],.agg x.cells,.agg y.cells,.pointer (some ⟨g,0,none⟩)] w
   fun r w'=>r = .returned (.int .i64 n)∧Below w.heap.size w w':=by
 have HB:Blk w g #[.int .i64 0] 28:=hg
 refine Calls.mono (part2_c fn x y n 0 0 g w hfn H (HB.cell rfl) (HB.frozen 0)) ?_
 rintro r w' ⟨rfl,w1,hb1,rfl⟩
 have e:w1.setCell ⟨g,0,none⟩ (.int .i64 (max 0 0))=w1:=setCell_self (t:=28) (fr:=(0,0)) (HB.keep hb1)
 exact ⟨rfl,by rw [e];exact hb1⟩
theorem ellmay_u (x y a b d:Int) (m:Bool) (h:El.may ⟨x,y,a,b,d⟩=m) (w:World) :
  Calls Tryz.prog 13 #[elC x y a b d] w fun e w'=>e = .returned (.bool m)∧Below w.heap.size w w':=by
 subst h;exact ellmay_c x y a b d w
open Go.RowKit
theorem ell_walk (a0 a1 a2 a3 a4 a5 a6:WI) (d x y lv sq p q r:WI) (HD:Hid ((a0.mul a2).sub (a1.mul a1)=d)) (HX:Hid ((a2.mul a3).sub (a1.mul a4)=x)) (HY:Hid ((a0.mul a4).sub (a1.mul a3)=y)) (HL:Hid (levW a0 a1 a2 a3 a4 a5 a6 d=lv)) (HS:Hid (d.mul d=sq)) (HP:Hid (lv.mul a2=p)) (HQ:Hid (lv.mul a0=q)) (HRR:Hid ((lv.mul a1).neg=r))
  (HV:Hid (overB [a0,a1,a2,a3,a4,a5,a6]=false)) (HW:Hid (overB [d,x,y,lv,sq,p,q,r]=false)) (F:El × Int) (HT1:Hid (a0.sign≤0∨d.sign≤0→F=(El.zero,1))) (HT2:Hid (0<a0.sign→0<d.sign→lv.sign<0→F=(El.zero,3))) (cx cy ea eb ed k1 k2 k3 k4 k5:Int) (N1:Hid (nearV x d=(cx,k1))) (N2:Hid (nearV y d=(cy,k2))) (N3:Hid (ceilV p sq=(ea,k3))) (N4:Hid (ceilV q sq=(ed,k4))) (N5:Hid (floorV r sq=(eb,k5))) (HK:Hid (0<a0.sign→0<d.sign→0≤lv.sign→k1=0∧k2=0)) (HT3:Hid (0<a0.sign→0<d.sign→0≤lv.sign→F=ellEnd cx cy ea eb ed (max (max (max (max (max 0 k1) k2) k3) k4) k5))) (w:World) :
  Calls Tryz.prog 45 #[.agg (blk [a0,a1,a2,a3,a4,a5,a6])] w fun e w'=>e = .returned (.tuple #[elV F.1,.int .i64 F.2])∧Below w.heap.size w w':=by
 go_enter Tryz.func45,Tryz.ntmps45
 go_wp2_with fail
 obtain ⟨wc,hw3⟩:∃ w3,w3=(w.alloc (Obj.cells (blk [a0,a1,a2,a3,a4,a5,a6]) 60)).alloc (Obj.cells #[.int .i64 0,.int .i64 0,.int .i64 0,.int .i64 0,.int .i64 0] 27):=⟨_,rfl⟩
 rw [← hw3]
 have HI:Hid (Blk wc w.heap.size (blk [a0,a1,a2,a3,a4,a5,a6]) 60):=by rw [hw3];exact (Blk.new _ _ _).alloc _
 have HR:Hid (Blk wc (w.heap.size+1) #[.int .i64 0,.int .i64 0,.int .i64 0,.int .i64 0,.int .i64 0] 27):=by rw [hw3];exact Blk.new' _ _ _ (by simp)
 have hbw:Below w.heap.size w wc:=by rw [hw3];exact below_byR
 clear hw3
 go_cut [4] from 5 (fun s4 we=>∃ g4,s4 = .pointer (some ⟨g4,0,none⟩)∧w.heap.size≤g4∧Hid (we.row? g4 0 18=some ((a0.mul a2).sub (a1.mul a1)).cells)∧Hid (Below wc.heap.size wc we))
 case first =>
  have i0:=@inw_row _ _ _ _ _ ((HI.out.row? 0 18 (by simp)).trans (congrArg some (blk_x0 _ _)))
  have i1:=@inw_row _ _ _ _ _ ((HI.out.row? 18 18 (by simp)).trans (congrArg some (blk_x1 _ _ _)))
  have i2:=@inw_row _ _ _ _ _ ((HI.out.row? 36 18 (by simp)).trans (congrArg some (blk_x2 _ _ _ _)))
  refine wp_region_fresh' 12 (fun k=>match k with|11=>some ⟨.cells (cellsI false false 0) 58,fun g => .pointer (some ⟨g,0,none⟩)⟩|_=>none) (fun _=>[]) (by kernel_rfl) (by kernel_rfl) ?_;refine ex_list ?_;apply Exists.intro;refine ex_list ?_;apply Exists.intro;refine ex_list ?_;apply Exists.intro;refine ex_list ?_;apply Exists.intro;refine ex_list ?_;apply Exists.intro;refine ex_list ?_;apply Exists.intro;refine ex_list ?_;apply Exists.intro;refine ex_list ?_;apply Exists.intro;refine ex_list ?_;apply Exists.intro;refine ex_list ?_;apply Exists.intro;refine ex_list ?_;apply Exists.intro;refine ex_list ⟨undef,?_⟩;refine ⟨[],fun gg NN hN=>?_⟩;simp only [List.take_succ_cons,List.take_zero,List.drop_succ_cons,List.drop_zero];(repeat (first|(refine lexF_quiet rfl ?_;go_big_quiet_step (first|exact rfl|(first|(go_at_call 91;exact calls_in (mul_I _ _ _))|(go_at_call 99;exact calls_in (sub_I _ _ _))));refine wpQuiet_nil ⟨rfl,?_⟩)|(refine lexF_fresh _ (by rfl) (by rfl) ?hex ?_;(case hex=>(intro wx;first|(go_simp;done)|(go_simp;rfl)));simp only [Act.put,List.setIfInBounds_toArray,List.set_cons_succ,List.set_cons_zero])))
  refine lexF_nil ?_
  intro wn hbn' hh hd
  have hbn:Below wc.heap.size wc wn:=hbn'
  obtain ⟨l4,e4⟩:=hh 11 _ (by decide) rfl
  have G4:Hid (Blk wn (gg 11) (cellsI false false 0) 58):=e4
  have hp4:(wn).put? (gg 11) 0 ((a0.mul a2).sub (a1.mul a1)).cells=some ((wn).putRow (gg 11) 0 ((a0.mul a2).sub (a1.mul a1)).cells):=(G4.out).put? 0 _ (by simp) (by simp)
  clear hh hd hbn' e4 i0 i1 i2
  go_wp2_with fail
  go_meet
  refine ⟨gg 11,rfl,Nat.le_trans hbw.size l4,?_,(Below_putRow hbn l4 _ _)⟩
  ·show _=_;rw [(((G4.out).putRow_same 0 ((a0.mul a2).sub (a1.mul a1)).cells)).row? 0 18 (by simp)];simp
 case rest =>
  obtain ⟨g4,rfl,l4,r4,HBN⟩:=hcut
  have hbn:=HBN.out
  have hbw2:=Below.trans hbw (hbn.mono hbw.size)
  clear hbw
  have hbw:=hbw2
  clear hbw2
  have HI2:=Lh (HI.out.keep hbn)
  clear HI
  have HI:=HI2
  clear HI2
  have HR2:=Lh (HR.out.keep hbn)
  clear HR
  have HR:=HR2
  clear HR2
  clear hbn HBN
  rw [HD.out] at r4
  go_wp2_with fail
  go_cut [5] from 6 (fun s5 we=>∃ g5,s5 = .pointer (some ⟨g5,0,none⟩)∧w.heap.size≤g5∧Hid (we.row? g5 0 18=some ((a2.mul a3).sub (a1.mul a4)).cells)∧Hid (Below wc.heap.size wc we))
  case first =>
   have i1:=@inw_row _ _ _ _ _ ((HI.out.row? 18 18 (by simp)).trans (congrArg some (blk_x1 _ _ _)))
   have i2:=@inw_row _ _ _ _ _ ((HI.out.row? 36 18 (by simp)).trans (congrArg some (blk_x2 _ _ _ _)))
   have i3:=@inw_row _ _ _ _ _ ((HI.out.row? 54 18 (by simp)).trans (congrArg some (blk_x3 _ _ _ _ _)))
   have i4:=@inw_row _ _ _ _ _ ((HI.out.row? 72 18 (by simp)).trans (congrArg some (blk_x4 _ _ _ _ _ _)))
   refine wp_region_fresh' 12 (fun k=>match k with|11=>some ⟨.cells (cellsI false false 0) 58,fun g => .pointer (some ⟨g,0,none⟩)⟩|_=>none) (fun _=>[]) (by kernel_rfl) (by kernel_rfl) ?_;refine ex_list ?_;apply Exists.intro;refine ex_list ?_;apply Exists.intro;refine ex_list ?_;apply Exists.intro;refine ex_list ?_;apply Exists.intro;refine ex_list ?_;apply Exists.intro;refine ex_list ?_;apply Exists.intro;refine ex_list ?_;apply Exists.intro;refine ex_list ?_;apply Exists.intro;refine ex_list ?_;apply Exists.intro;refine ex_list ?_;apply Exists.intro;refine ex_list ?_;apply Exists.intro;refine ex_list ⟨undef,?_⟩;refine ⟨[],fun gg NN hN=>?_⟩;simp only [List.take_succ_cons,List.take_zero,List.drop_succ_cons,List.drop_zero];(repeat (first|(refine lexF_quiet rfl ?_;go_big_quiet_step (first|exact rfl|(first|(go_at_call 91;exact calls_in (mul_I _ _ _))|(go_at_call 99;exact calls_in (sub_I _ _ _))));refine wpQuiet_nil ⟨rfl,?_⟩)|(refine lexF_fresh _ (by rfl) (by rfl) ?hex ?_;(case hex=>(intro wx;first|(go_simp;done)|(go_simp;rfl)));simp only [Act.put,List.setIfInBounds_toArray,List.set_cons_succ,List.set_cons_zero])))
   refine lexF_nil ?_
   intro wn hbn' hh hd
   have hbn:Below wc.heap.size wc wn:=hbn'
   obtain ⟨l5,e5⟩:=hh 11 _ (by decide) rfl
   have G5:Hid (Blk wn (gg 11) (cellsI false false 0) 58):=e5
   have hp5:(wn).put? (gg 11) 0 ((a2.mul a3).sub (a1.mul a4)).cells=some ((wn).putRow (gg 11) 0 ((a2.mul a3).sub (a1.mul a4)).cells):=(G5.out).put? 0 _ (by simp) (by simp)
   clear hh hd hbn' e5 i1 i2 i3 i4
   go_wp2_with fail
   go_meet
   refine ⟨gg 11,rfl,Nat.le_trans hbw.size l5,?_,(Below_putRow hbn l5 _ _)⟩
   ·show _=_;rw [(((G5.out).putRow_same 0 ((a2.mul a3).sub (a1.mul a4)).cells)).row? 0 18 (by simp)];simp
  case rest =>
   obtain ⟨g5,rfl,l5,r5,HBN⟩:=hcut
   have hbn:=HBN.out
   have hbw2:=Below.trans hbw (hbn.mono hbw.size)
   clear hbw
   have hbw:=hbw2
   clear hbw2
   have HI2:=Lh (HI.out.keep hbn)
   clear HI
   have HI:=HI2
   clear HI2
   have r4:=Lh ((Below.row? hbn g4 0 18 (row_lt r4.out)).trans r4.out)
   have HR2:=Lh (HR.out.keep hbn)
   clear HR
   have HR:=HR2
   clear HR2
   clear hbn HBN
   rw [HX.out] at r5
   go_wp2_with fail
   go_cut [6] from 7 (fun s6 we=>∃ g6,s6 = .pointer (some ⟨g6,0,none⟩)∧w.heap.size≤g6∧Hid (we.row? g6 0 18=some ((a0.mul a4).sub (a1.mul a3)).cells)∧Hid (Below wc.heap.size wc we))
   case first =>
    have i0:=@inw_row _ _ _ _ _ ((HI.out.row? 0 18 (by simp)).trans (congrArg some (blk_x0 _ _)))
    have i1:=@inw_row _ _ _ _ _ ((HI.out.row? 18 18 (by simp)).trans (congrArg some (blk_x1 _ _ _)))
    have i3:=@inw_row _ _ _ _ _ ((HI.out.row? 54 18 (by simp)).trans (congrArg some (blk_x3 _ _ _ _ _)))
    have i4:=@inw_row _ _ _ _ _ ((HI.out.row? 72 18 (by simp)).trans (congrArg some (blk_x4 _ _ _ _ _ _)))
    refine wp_region_fresh' 12 (fun k=>match k with|11=>some ⟨.cells (cellsI false false 0) 58,fun g => .pointer (some ⟨g,0,none⟩)⟩|_=>none) (fun _=>[]) (by kernel_rfl) (by kernel_rfl) ?_;refine ex_list ?_;apply Exists.intro;refine ex_list ?_;apply Exists.intro;refine ex_list ?_;apply Exists.intro;refine ex_list ?_;apply Exists.intro;refine ex_list ?_;apply Exists.intro;refine ex_list ?_;apply Exists.intro;refine ex_list ?_;apply Exists.intro;refine ex_list ?_;apply Exists.intro;refine ex_list ?_;apply Exists.intro;refine ex_list ?_;apply Exists.intro;refine ex_list ?_;apply Exists.intro;refine ex_list ⟨undef,?_⟩;refine ⟨[],fun gg NN hN=>?_⟩;simp only [List.take_succ_cons,List.take_zero,List.drop_succ_cons,List.drop_zero];(repeat (first|(refine lexF_quiet rfl ?_;go_big_quiet_step (first|exact rfl|(first|(go_at_call 91;exact calls_in (mul_I _ _ _))|(go_at_call 99;exact calls_in (sub_I _ _ _))));refine wpQuiet_nil ⟨rfl,?_⟩)|(refine lexF_fresh _ (by rfl) (by rfl) ?hex ?_;(case hex=>(intro wx;first|(go_simp;done)|(go_simp;rfl)));simp only [Act.put,List.setIfInBounds_toArray,List.set_cons_succ,List.set_cons_zero])))
    refine lexF_nil ?_
    intro wn hbn' hh hd
    have hbn:Below wc.heap.size wc wn:=hbn'
    obtain ⟨l6,e6⟩:=hh 11 _ (by decide) rfl
    have G6:Hid (Blk wn (gg 11) (cellsI false false 0) 58):=e6
    have hp6:(wn).put? (gg 11) 0 ((a0.mul a4).sub (a1.mul a3)).cells=some ((wn).putRow (gg 11) 0 ((a0.mul a4).sub (a1.mul a3)).cells):=(G6.out).put? 0 _ (by simp) (by simp)
    clear hh hd hbn' e6 i0 i1 i3 i4
    go_wp2_with fail
    go_meet
    refine ⟨gg 11,rfl,Nat.le_trans hbw.size l6,?_,(Below_putRow hbn l6 _ _)⟩
    ·show _=_;rw [(((G6.out).putRow_same 0 ((a0.mul a4).sub (a1.mul a3)).cells)).row? 0 18 (by simp)];simp
   case rest =>
    obtain ⟨g6,rfl,l6,r6,HBN⟩:=hcut
    have hbn:=HBN.out
    have hbw2:=Below.trans hbw (hbn.mono hbw.size)
    clear hbw
    have hbw:=hbw2
    clear hbw2
    have HI2:=Lh (HI.out.keep hbn)
    clear HI
    have HI:=HI2
    clear HI2
    have r4:=Lh ((Below.row? hbn g4 0 18 (row_lt r4.out)).trans r4.out)
    have r5:=Lh ((Below.row? hbn g5 0 18 (row_lt r5.out)).trans r5.out)
    have HR2:=Lh (HR.out.keep hbn)
    clear HR
    have HR:=HR2
    clear HR2
    clear hbn HBN
    rw [HY.out] at r6
    go_wp2_with fail
    go_cut [7,8] from 9 (fun s7 s8 we=>∃ g7 g8,s7 = .pointer (some ⟨g7,0,none⟩)∧s8 = .pointer (some ⟨g8,0,none⟩)∧w.heap.size≤g7∧w.heap.size≤g8∧Hid (we.row? g7 0 18=some (levW a0 a1 a2 a3 a4 a5 a6 d).cells)∧Hid (we.row? g8 0 18=some (d.mul d).cells)∧Hid (Below wc.heap.size wc we))
    case first =>
     have iw:=@inw_row _ _ _ _ _ (HI.out.row?_all 126 (by simp))
     have k4:=@inw_row _ _ _ _ _ r4.out
     refine wp_region_fresh' 8 (fun k=>match k with|6=>some ⟨.cells (cellsI false false 0) 58,fun g => .pointer (some ⟨g,0,none⟩)⟩|7=>some ⟨.cells (cellsI false false 0) 58,fun g => .pointer (some ⟨g,0,none⟩)⟩|_=>none) (fun _=>[]) (by kernel_rfl) (by kernel_rfl) ?_;refine ex_list ?_;apply Exists.intro;refine ex_list ?_;apply Exists.intro;refine ex_list ?_;apply Exists.intro;refine ex_list ?_;apply Exists.intro;refine ex_list ?_;apply Exists.intro;refine ex_list ?_;apply Exists.intro;refine ex_list ⟨undef,?_⟩;refine ex_list ⟨undef,?_⟩;refine ⟨[],fun gg NN hN=>?_⟩;simp only [List.take_succ_cons,List.take_zero,List.drop_succ_cons,List.drop_zero];(repeat (first|(refine lexF_quiet rfl ?_;go_big_quiet_step (first|exact rfl|(first|(go_at_call 91;exact calls_in (mul_I _ _ _))|(go_at_call 109;exact calls_in (level_c _ _ _ _ _ _ _ _ _))));refine wpQuiet_nil ⟨rfl,?_⟩)|(refine lexF_fresh _ (by rfl) (by rfl) ?hex ?_;(case hex=>(intro wx;first|(go_simp;done)|(go_simp;rfl)));simp only [Act.put,List.setIfInBounds_toArray,List.set_cons_succ,List.set_cons_zero])))
     refine lexF_nil ?_
     intro wn hbn' hh hd
     have hbn:Below wc.heap.size wc wn:=hbn'
     obtain ⟨l7,e7⟩:=hh 6 _ (by decide) rfl
     obtain ⟨l8,e8⟩:=hh 7 _ (by decide) rfl
     have n7_8:gg 6≠gg 7:=hd 6 7 (by decide) (by decide) rfl rfl (by decide)
     have G7:Hid (Blk wn (gg 6) (cellsI false false 0) 58):=e7
     have G8:Hid (Blk wn (gg 7) (cellsI false false 0) 58):=e8
     have hp7:(wn).put? (gg 6) 0 (levW a0 a1 a2 a3 a4 a5 a6 d).cells=some ((wn).putRow (gg 6) 0 (levW a0 a1 a2 a3 a4 a5 a6 d).cells):=(G7.out).put? 0 _ (by simp) (by simp)
     have hp8:((wn).putRow (gg 6) 0 (levW a0 a1 a2 a3 a4 a5 a6 d).cells).put? (gg 7) 0 (d.mul d).cells=some (((wn).putRow (gg 6) 0 (levW a0 a1 a2 a3 a4 a5 a6 d).cells).putRow (gg 7) 0 (d.mul d).cells):=(((G8.out).putRow_other (Ne.symm n7_8) 0 (levW a0 a1 a2 a3 a4 a5 a6 d).cells)).put? 0 _ (by simp) (by simp)
     clear hh hd hbn' e7 e8 k4
     go_wp2_with fail
     go_meet
     refine ⟨gg 6,gg 7,rfl,rfl,Nat.le_trans hbw.size l7,Nat.le_trans hbw.size l8,?_,?_,(Below_putRow (Below_putRow hbn l7 _ _) l8 _ _)⟩
     ·show _=_;rw [(((((G7.out).putRow_same 0 (levW a0 a1 a2 a3 a4 a5 a6 d).cells)).putRow_other n7_8 0 (d.mul d).cells)).row? 0 18 (by simp)];simp
     ·show _=_;rw [(((((G8.out).putRow_other (Ne.symm n7_8) 0 (levW a0 a1 a2 a3 a4 a5 a6 d).cells)).putRow_same 0 (d.mul d).cells)).row? 0 18 (by simp)];simp
    case rest =>
     obtain ⟨g7,g8,rfl,rfl,l7,l8,r7,r8,HBN⟩:=hcut
     have hbn:=HBN.out
     have hbw2:=Below.trans hbw (hbn.mono hbw.size)
     clear hbw
     have hbw:=hbw2
     clear hbw2
     have HI2:=Lh (HI.out.keep hbn)
     clear HI
     have HI:=HI2
     clear HI2
     have r4:=Lh ((Below.row? hbn g4 0 18 (row_lt r4.out)).trans r4.out)
     have r5:=Lh ((Below.row? hbn g5 0 18 (row_lt r5.out)).trans r5.out)
     have r6:=Lh ((Below.row? hbn g6 0 18 (row_lt r6.out)).trans r6.out)
     have HR2:=Lh (HR.out.keep hbn)
     clear HR
     have HR:=HR2
     clear HR2
     clear hbn HBN
     rw [HL.out] at r7
     rw [HS.out] at r8
     go_wp2_with fail
     go_cut [9,10,11] from 12 (fun s9 s10 s11 we=>∃ g9 g10 g11,s9 = .pointer (some ⟨g9,0,none⟩)∧s10 = .pointer (some ⟨g10,0,none⟩)∧s11 = .pointer (some ⟨g11,0,none⟩)∧w.heap.size≤g9∧w.heap.size≤g10∧w.heap.size≤g11∧Hid (we.row? g9 0 18=some (lv.mul a2).cells)∧Hid (we.row? g10 0 18=some (lv.mul a0).cells)∧Hid (we.row? g11 0 18=some ((lv.mul a1).neg).cells)∧Hid (Below wc.heap.size wc we))
     case first =>
      have i0:=@inw_row _ _ _ _ _ ((HI.out.row? 0 18 (by simp)).trans (congrArg some (blk_x0 _ _)))
      have i1:=@inw_row _ _ _ _ _ ((HI.out.row? 18 18 (by simp)).trans (congrArg some (blk_x1 _ _ _)))
      have i2:=@inw_row _ _ _ _ _ ((HI.out.row? 36 18 (by simp)).trans (congrArg some (blk_x2 _ _ _ _)))
      have k7:=@inw_row _ _ _ _ _ r7.out
      refine wp_region_fresh' 16 (fun k=>match k with|13=>some ⟨.cells (cellsI false false 0) 58,fun g => .pointer (some ⟨g,0,none⟩)⟩|14=>some ⟨.cells (cellsI false false 0) 58,fun g => .pointer (some ⟨g,0,none⟩)⟩|15=>some ⟨.cells (cellsI false false 0) 58,fun g => .pointer (some ⟨g,0,none⟩)⟩|_=>none) (fun _=>[]) (by kernel_rfl) (by kernel_rfl) ?_;refine ex_list ?_;apply Exists.intro;refine ex_list ?_;apply Exists.intro;refine ex_list ?_;apply Exists.intro;refine ex_list ?_;apply Exists.intro;refine ex_list ?_;apply Exists.intro;refine ex_list ?_;apply Exists.intro;refine ex_list ?_;apply Exists.intro;refine ex_list ?_;apply Exists.intro;refine ex_list ?_;apply Exists.intro;refine ex_list ?_;apply Exists.intro;refine ex_list ?_;apply Exists.intro;refine ex_list ?_;apply Exists.intro;refine ex_list ?_;apply Exists.intro;refine ex_list ⟨undef,?_⟩;refine ex_list ⟨undef,?_⟩;refine ex_list ⟨undef,?_⟩;refine ⟨[],fun gg NN hN=>?_⟩;simp only [List.take_succ_cons,List.take_zero,List.drop_succ_cons,List.drop_zero];(repeat (first|(refine lexF_quiet rfl ?_;go_big_quiet_step (first|exact rfl|(first|(go_at_call 91;exact calls_in (mul_I _ _ _))|(go_at_call 110;exact calls_in (neg_I _ _))));refine wpQuiet_nil ⟨rfl,?_⟩)|(refine lexF_fresh _ (by rfl) (by rfl) ?hex ?_;(case hex=>(intro wx;first|(go_simp;done)|(go_simp;rfl)));simp only [Act.put,List.setIfInBounds_toArray,List.set_cons_succ,List.set_cons_zero])))
      refine lexF_nil ?_
      intro wn hbn' hh hd
      have hbn:Below wc.heap.size wc wn:=hbn'
      obtain ⟨l9,e9⟩:=hh 13 _ (by decide) rfl
      obtain ⟨l10,e10⟩:=hh 14 _ (by decide) rfl
      obtain ⟨l11,e11⟩:=hh 15 _ (by decide) rfl
      have n9_10:gg 13≠gg 14:=hd 13 14 (by decide) (by decide) rfl rfl (by decide)
      have n9_11:gg 13≠gg 15:=hd 13 15 (by decide) (by decide) rfl rfl (by decide)
      have n10_11:gg 14≠gg 15:=hd 14 15 (by decide) (by decide) rfl rfl (by decide)
      have G9:Hid (Blk wn (gg 13) (cellsI false false 0) 58):=e9
      have G10:Hid (Blk wn (gg 14) (cellsI false false 0) 58):=e10
      have G11:Hid (Blk wn (gg 15) (cellsI false false 0) 58):=e11
      have hp9:(wn).put? (gg 13) 0 (lv.mul a2).cells=some ((wn).putRow (gg 13) 0 (lv.mul a2).cells):=(G9.out).put? 0 _ (by simp) (by simp)
      have hp10:((wn).putRow (gg 13) 0 (lv.mul a2).cells).put? (gg 14) 0 (lv.mul a0).cells=some (((wn).putRow (gg 13) 0 (lv.mul a2).cells).putRow (gg 14) 0 (lv.mul a0).cells):=(((G10.out).putRow_other (Ne.symm n9_10) 0 (lv.mul a2).cells)).put? 0 _ (by simp) (by simp)
      have hp11:(((wn).putRow (gg 13) 0 (lv.mul a2).cells).putRow (gg 14) 0 (lv.mul a0).cells).put? (gg 15) 0 ((lv.mul a1).neg).cells=some ((((wn).putRow (gg 13) 0 (lv.mul a2).cells).putRow (gg 14) 0 (lv.mul a0).cells).putRow (gg 15) 0 ((lv.mul a1).neg).cells):=(((((G11.out).putRow_other (Ne.symm n9_11) 0 (lv.mul a2).cells)).putRow_other (Ne.symm n10_11) 0 (lv.mul a0).cells)).put? 0 _ (by simp) (by simp)
      clear hh hd hbn' e9 e10 e11 i0 i1 i2 k7
      go_wp2_with fail
      go_meet
      refine ⟨gg 13,gg 14,gg 15,rfl,rfl,rfl,Nat.le_trans hbw.size l9,Nat.le_trans hbw.size l10,Nat.le_trans hbw.size l11,?_,?_,?_,(Below_putRow (Below_putRow (Below_putRow hbn l9 _ _) l10 _ _) l11 _ _)⟩
      ·show _=_;rw [(((((((G9.out).putRow_same 0 (lv.mul a2).cells)).putRow_other n9_10 0 (lv.mul a0).cells)).putRow_other n9_11 0 ((lv.mul a1).neg).cells)).row? 0 18 (by simp)];simp
      ·show _=_;rw [(((((((G10.out).putRow_other (Ne.symm n9_10) 0 (lv.mul a2).cells)).putRow_same 0 (lv.mul a0).cells)).putRow_other n10_11 0 ((lv.mul a1).neg).cells)).row? 0 18 (by simp)];simp
      ·show _=_;rw [(((((((G11.out).putRow_other (Ne.symm n9_11) 0 (lv.mul a2).cells)).putRow_other (Ne.symm n10_11) 0 (lv.mul a0).cells)).putRow_same 0 ((lv.mul a1).neg).cells)).row? 0 18 (by simp)];simp
     case rest =>
      obtain ⟨g9,g10,g11,rfl,rfl,rfl,l9,l10,l11,r9,r10,r11,HBN⟩:=hcut
      have hbn:=HBN.out
      have hbw2:=Below.trans hbw (hbn.mono hbw.size)
      clear hbw
      have hbw:=hbw2
      clear hbw2
      have HI2:=Lh (HI.out.keep hbn)
      clear HI
      have HI:=HI2
      clear HI2
      have r4:=Lh ((Below.row? hbn g4 0 18 (row_lt r4.out)).trans r4.out)
      have r5:=Lh ((Below.row? hbn g5 0 18 (row_lt r5.out)).trans r5.out)
      have r6:=Lh ((Below.row? hbn g6 0 18 (row_lt r6.out)).trans r6.out)
      have r7:=Lh ((Below.row? hbn g7 0 18 (row_lt r7.out)).trans r7.out)
      have r8:=Lh ((Below.row? hbn g8 0 18 (row_lt r8.out)).trans r8.out)
      have HR2:=Lh (HR.out.keep hbn)
      clear HR
      have HR:=HR2
      clear HR2
      clear hbn HBN
      rw [HP.out] at r9
      rw [HQ.out] at r10
      rw [HRR.out] at r11
      have y0:=HI.out.lt
      have y1:=HR.out.lt
      have y4:=row_lt r4.out
      have y5:=row_lt r5.out
      have y6:=row_lt r6.out
      have y7:=row_lt r7.out
      have y8:=row_lt r8.out
      have y9:=row_lt r9.out
      have y10:=row_lt r10.out
      have y11:=row_lt r11.out
      have s4:=r4.out
      have s5:=r5.out
      have s6:=r6.out
      have s7:=r7.out
      have s8:=r8.out
      have s9:=r9.out
      have s10:=r10.out
      have s11:=r11.out
      have iw:=HI.out.row?_all 126 (by simp)
      have i0:=(HI.out.row? 0 18 (by simp)).trans (congrArg some (blk_x0 _ _))
      have FR:wc.fits (w.heap.size+1) 5=true:=by have h:=HR.out;unfold Blk at h;unfold World.fits;rw [h];rfl
      have FC:=fun i=>HR.out.at i
      have FZ:=fun i=>HR.out.frozen i
      go_wp2_with fail
      refine (any_c _ _ _ _ _ _ _ HV.out _).mono ?_;rintro e w1 ⟨rfl,hb1⟩;have z_w1:=hb1.size;(try simp at z_w1);have Kw1aa:=bq hb1 (w.heap.size);have Kw1ab:=bq hb1 (w.heap.size+1);have K_w1_g4:=bq hb1 (g4);have K_w1_g5:=bq hb1 (g5);have K_w1_g6:=bq hb1 (g6);have K_w1_g7:=bq hb1 (g7);have K_w1_g8:=bq hb1 (g8);have K_w1_g9:=bq hb1 (g9);have K_w1_g10:=bq hb1 (g10);have K_w1_g11:=bq hb1 (g11)
      go_wp2_with fail
      refine (over_c [d,x,y,lv,sq,p,q,r] _ _ (by simp) HW.out (Blk.new' _ _ _ (by simp))).mono ?_;rintro e w2 ⟨rfl,hb2⟩;have z_w2:=hb2.size;(try simp at z_w2);have Kw2aa:=bq hb2 (w.heap.size);have Kw2ab:=bq hb2 (w.heap.size+1);have K_w2_g4:=bq hb2 (g4);have K_w2_g5:=bq hb2 (g5);have K_w2_g6:=bq hb2 (g6);have K_w2_g7:=bq hb2 (g7);have K_w2_g8:=bq hb2 (g8);have K_w2_g9:=bq hb2 (g9);have K_w2_g10:=bq hb2 (g10);have K_w2_g11:=bq hb2 (g11)
      go_wp2_with fail
      refine (sign_I _ _).mono ?_;rintro e w3 ⟨rfl,hb3⟩;have z_w3:=hb3.size;(try simp at z_w3);have Kw3aa:=bq hb3 (w.heap.size);have Kw3ab:=bq hb3 (w.heap.size+1);have K_w3_g4:=bq hb3 (g4);have K_w3_g5:=bq hb3 (g5);have K_w3_g6:=bq hb3 (g6);have K_w3_g7:=bq hb3 (g7);have K_w3_g8:=bq hb3 (g8);have K_w3_g9:=bq hb3 (g9);have K_w3_g10:=bq hb3 (g10);have K_w3_g11:=bq hb3 (g11)
      have hbc:Below wc.heap.size wc w3:=below_byR
      have hbe:Below w.heap.size w w3:=Below.trans hbw (hbc.mono hbw.size)
      clear hb1 hb2 hb3
      by_cases h1:a0.sign≤0
      ·have E:=Lh (HT1.out (.inl h1))
       go_wp2_with fail
       exact bodyPost_row_t 5 #[.int .i64 0,.int .i64 0,.int .i64 0,.int .i64 0,.int .i64 0] (.int .i64 1) rfl rfl rfl rfl Tryz.underlying27 rfl (by kernel_rfl) (rc5 (by go_simp) (by go_simp) (by go_simp) (by go_simp) (by go_simp)) ⟨by rw [E.out];rfl,below_byR⟩
      ·have h1':0<a0.sign:=by omega
       go_wp2_with fail
       refine (sign_I _ _).mono ?_;rintro e w4 ⟨rfl,hb4⟩;have z_w4:=hb4.size;(try simp at z_w4);have Kw4aa:=bq hb4 (w.heap.size);have Kw4ab:=bq hb4 (w.heap.size+1);have K_w4_g4:=bq hb4 (g4);have K_w4_g5:=bq hb4 (g5);have K_w4_g6:=bq hb4 (g6);have K_w4_g7:=bq hb4 (g7);have K_w4_g8:=bq hb4 (g8);have K_w4_g9:=bq hb4 (g9);have K_w4_g10:=bq hb4 (g10);have K_w4_g11:=bq hb4 (g11)
       by_cases h2:d.sign≤0
       ·have E:=Lh (HT1.out (.inr h2))
        go_wp2_with fail
        exact bodyPost_row_t 5 #[.int .i64 0,.int .i64 0,.int .i64 0,.int .i64 0,.int .i64 0] (.int .i64 1) rfl rfl rfl rfl Tryz.underlying27 rfl (by kernel_rfl) (rc5 (by go_simp) (by go_simp) (by go_simp) (by go_simp) (by go_simp)) ⟨by rw [E.out];rfl,below_byR⟩
       ·have h2':0<d.sign:=by omega
        go_wp2_with fail
        refine (sign_I _ _).mono ?_;rintro e w5 ⟨rfl,hb5⟩;have z_w5:=hb5.size;(try simp at z_w5);have Kw5aa:=bq hb5 (w.heap.size);have Kw5ab:=bq hb5 (w.heap.size+1);have K_w5_g4:=bq hb5 (g4);have K_w5_g5:=bq hb5 (g5);have K_w5_g6:=bq hb5 (g6);have K_w5_g7:=bq hb5 (g7);have K_w5_g8:=bq hb5 (g8);have K_w5_g9:=bq hb5 (g9);have K_w5_g10:=bq hb5 (g10);have K_w5_g11:=bq hb5 (g11)
        by_cases h3:lv.sign<0
        ·have E:=Lh (HT2.out h1' h2' h3)
         go_wp2_with fail
         exact bodyPost_row_t 5 #[.int .i64 0,.int .i64 0,.int .i64 0,.int .i64 0,.int .i64 0] (.int .i64 3) rfl rfl rfl rfl Tryz.underlying27 rfl (by kernel_rfl) (rc5 (by go_simp) (by go_simp) (by go_simp) (by go_simp) (by go_simp)) ⟨by rw [E.out];rfl,below_byR⟩
        ·have E:=Lh (HT3.out h1' h2' (by omega))
         have h3':0≤lv.sign:=by omega
         go_wp2_with fail
         obtain ⟨g12,hg12⟩:∃ g,g=w5.heap.size:=⟨_,rfl⟩
         obtain ⟨w6,hw6⟩:∃ w6,w6=w5.alloc (Obj.cells #[.int .i64 0] 28):=⟨_,rfl⟩
         rw [← hw6,← hg12]
         have hb6:Below w5.heap.size w5 w6:=by rw [hw6];exact below_byR
         have z_w6:=hb6.size;(try simp at z_w6);have Kw6aa:=bq hb6 (w.heap.size);have Kw6ab:=bq hb6 (w.heap.size+1);have K_w6_g4:=bq hb6 (g4);have K_w6_g5:=bq hb6 (g5);have K_w6_g6:=bq hb6 (g6);have K_w6_g7:=bq hb6 (g7);have K_w6_g8:=bq hb6 (g8);have K_w6_g9:=bq hb6 (g9);have K_w6_g10:=bq hb6 (g10);have K_w6_g11:=bq hb6 (g11)
         have H12:Hid (Blk w6 g12 #[.int .i64 0] 28):=by rw [hw6,hg12];exact Blk.new _ _ _
         have hbd3:Below w3.heap.size w3 w6:=below_byR
         have hbd:Below wc.heap.size wc w6:=Below.trans hbc (hbd3.mono hbc.size)
         have hbf:Below w.heap.size w w6:=Below.trans hbw (hbd.mono hbw.size)
         have z12:w.heap.size≤g12:=by have:=hbe.size;have:=hb4.size;have:=hb5.size;omega
         clear hb4 hb5 hb6
         obtain ⟨hk1,hk2⟩:=HK.out h1' h2' h3'
         subst hk1;subst hk2
         have HR6:=Lh (HR.out.keep hbd)
         have t4:Hid (w6.row? g4 0 18=some d.cells):=(Below.row? hbd g4 0 18 (row_lt s4)).trans s4
         have t5:Hid (w6.row? g5 0 18=some x.cells):=(Below.row? hbd g5 0 18 (row_lt s5)).trans s5
         have t6:Hid (w6.row? g6 0 18=some y.cells):=(Below.row? hbd g6 0 18 (row_lt s6)).trans s6
         have t7:Hid (w6.row? g7 0 18=some lv.cells):=(Below.row? hbd g7 0 18 (row_lt s7)).trans s7
         have t8:Hid (w6.row? g8 0 18=some sq.cells):=(Below.row? hbd g8 0 18 (row_lt s8)).trans s8
         have t9:Hid (w6.row? g9 0 18=some p.cells):=(Below.row? hbd g9 0 18 (row_lt s9)).trans s9
         have t10:Hid (w6.row? g10 0 18=some q.cells):=(Below.row? hbd g10 0 18 (row_lt s10)).trans s10
         have t11:Hid (w6.row? g11 0 18=some r.cells):=(Below.row? hbd g11 0 18 (row_lt s11)).trans s11
         have nn8:Hid (¬ g8=g12):=by have h:=y8;have h2:=hbc.size;have h3:=z_w4;have h4:=z_w5;show ¬ _;omega
         have nn9:Hid (¬ g9=g12):=by have h:=y9;have h2:=hbc.size;have h3:=z_w4;have h4:=z_w5;show ¬ _;omega
         have nn10:Hid (¬ g10=g12):=by have h:=y10;have h2:=hbc.size;have h3:=z_w4;have h4:=z_w5;show ¬ _;omega
         have nn11:Hid (¬ g11=g12):=by have h:=y11;have h2:=hbc.size;have h3:=z_w4;have h4:=z_w5;show ¬ _;omega
         have nnR:Hid (¬ w.heap.size+1=g12):=by have h2:=hbc.size;have h3:=z_w4;have h4:=z_w5;show ¬ _;omega
         clear z_w6 Kw6aa Kw6ab K_w6_g4 K_w6_g5 K_w6_g6 K_w6_g7 K_w6_g8 K_w6_g9 K_w6_g10 K_w6_g11
         clear z_w5 Kw5aa Kw5ab K_w5_g4 K_w5_g5 K_w5_g6 K_w5_g7 K_w5_g8 K_w5_g9 K_w5_g10 K_w5_g11
         clear z_w4 Kw4aa Kw4ab K_w4_g4 K_w4_g5 K_w4_g6 K_w4_g7 K_w4_g8 K_w4_g9 K_w4_g10 K_w4_g11
         clear z_w3 Kw3aa Kw3ab K_w3_g4 K_w3_g5 K_w3_g6 K_w3_g7 K_w3_g8 K_w3_g9 K_w3_g10 K_w3_g11
         clear z_w2 Kw2aa Kw2ab K_w2_g4 K_w2_g5 K_w2_g6 K_w2_g7 K_w2_g8 K_w2_g9 K_w2_g10 K_w2_g11
         clear z_w1 Kw1aa Kw1ab K_w1_g4 K_w1_g5 K_w1_g6 K_w1_g7 K_w1_g8 K_w1_g9 K_w1_g10 K_w1_g11
         clear hg12 hw6 FR FC FZ iw i0 y0 y1 y4 y5 y6 y7 y8 y9 y10 y11 s4 s5 s6 s7 s8 s9 s10 s11 r4 r5 r6 r7 r8 r9 r10 r11 HR hbe hbc hbd hbd3 hbw HI HD HX HY HL HS HP HQ HRR HV HW HT1 HT2 HT3 HK
         go_cut [14] from 15 (fun s14 wd=>∃ g14,s14 = .pointer (some ⟨g14,0,none⟩)∧w6.heap.size≤g14∧Hid (Blk wd g14 #[.int .i64 cx,.int .i64 cy,.int .i64 0,.int .i64 0,.int .i64 0] 27)∧Hid (Below w6.heap.size w6 wd))
         case first =>
          have q4:=@inw_row _ _ _ _ _ t4.out
          have q5:=@inw_row _ _ _ _ _ t5.out
          have q6:=@inw_row _ _ _ _ _ t6.out
          have q12:∀ {fr:Nat→Option Fresh} {g:Nat→Nat} {N:List Nat} (p:Inw w6.drew fr g N),p.w.heap[g12]? = some (.cells #[.int .i64 0] 28 (0,0)):=fun p=>(p.low.block g12 H12.out.lt).trans H12.out
          refine wp_region_fresh' 11 (fun k=>match k with|10=>some ⟨.cells #[.int .i64 0,.int .i64 0,.int .i64 0,.int .i64 0,.int .i64 0] 27,fun g => .pointer (some ⟨g,0,none⟩)⟩|_=>none) (fun _=>[]) (by kernel_rfl) (by kernel_rfl) ?_;refine ex_list ?_;apply Exists.intro;refine ex_list ?_;apply Exists.intro;refine ex_list ?_;apply Exists.intro;refine ex_list ?_;apply Exists.intro;refine ex_list ?_;apply Exists.intro;refine ex_list ?_;apply Exists.intro;refine ex_list ?_;apply Exists.intro;refine ex_list ?_;apply Exists.intro;refine ex_list ?_;apply Exists.intro;refine ex_list ?_;apply Exists.intro;refine ex_list ⟨undef,?_⟩;refine ⟨[],fun gg NN hN=>?_⟩;simp only [List.take_succ_cons,List.take_zero,List.drop_succ_cons,List.drop_zero];(repeat (first|(refine lexF_quiet rfl ?_;go_big_quiet_step (first|exact rfl|(rename_i px;go_at_call 112;exact calls_in (part2_q 113 _ d _ g12 _ fnNear (near_v _ d _ 0 (by first|with_reducible exact N1.out|with_reducible exact N2.out)) (q12 px))));refine wpQuiet_nil ⟨rfl,?_⟩)|(refine lexF_fresh _ (by rfl) (by rfl) ?hex ?_;(case hex=>(intro wx;first|(go_simp;done)|(go_simp;rfl)));simp only [Act.put,List.setIfInBounds_toArray,List.set_cons_succ,List.set_cons_zero])))
          refine lexF_nil ?_
          intro wn hbn' hh _
          have hbn:Below w6.heap.size w6 wn:=hbn'
          obtain ⟨l14,e14⟩:=hh 10 _ (by decide) rfl
          clear hh hbn' q4 q5 q6 q12
          have G14:Hid (Blk wn (gg 10) #[.int .i64 0,.int .i64 0,.int .i64 0,.int .i64 0,.int .i64 0] 27):=e14
          have GC:=fun i=>G14.out.at i
          have GZ:=fun i=>G14.out.frozen i
          clear e14
          go_wp2_with fail
          go_meet
          refine ⟨gg 10,rfl,l14,?_,?_⟩
          ·exact (((((G14.out.setCell_same 0 _).setCell_same 1 _).setCell_same 2 _).setCell_same 3 _).setCell_same 4 _).of_eq rfl
          ·exact (show Below _ _ _ from below_byR)
         case rest =>
          obtain ⟨g14,rfl,l14,H14,HBn⟩:=hcut
          have hbn:=HBn.out
          have HR7:=Lh (HR6.out.keep hbn)
          have H12b:=Lh (H12.out.keep hbn)
          have u8:=(Below.row? hbn g8 0 18 (row_lt t8.out)).trans t8.out
          have u9:=(Below.row? hbn g9 0 18 (row_lt t9.out)).trans t9.out
          have u10:=(Below.row? hbn g10 0 18 (row_lt t10.out)).trans t10.out
          have u11:=(Below.row? hbn g11 0 18 (row_lt t11.out)).trans t11.out
          have hbg:Below w.heap.size w wc:=Below.trans hbf (hbn.mono hbf.size)
          have v8:=row_lt u8
          have v9:=row_lt u9
          have v10:=row_lt u10
          have v11:=row_lt u11
          have v12:=H12b.out.lt
          have v14:=H14.out.lt
          have vA:w.heap.size+1<wc.heap.size:=HR7.out.lt
          have vB:w.heap.size<wc.heap.size:=by omega
          have m12:=H12.out.lt
          have m8:=row_lt t8.out
          have m9:=row_lt t9.out
          have m10:=row_lt t10.out
          have m11:=row_lt t11.out
          have mA:w.heap.size+1<w6.heap.size:=HR6.out.lt
          have zA:w.heap.size+1≤g14:=by omega
          have zG:w.heap.size≤g14:=by omega
          have nE:¬ g14=g12:=by omega
          have nF:¬ g12=g14:=by omega
          have nG:¬ w.heap.size+1=g14:=by omega
          have nH:¬ w.heap.size+1=g12:=nnR.out
          have n8:¬ g8=g12:=nn8.out
          have n9:¬ g9=g12:=nn9.out
          have n10:¬ g10=g12:=nn10.out
          have n11:¬ g11=g12:=nn11.out
          have o8:¬ g8=g14:=by omega
          have o9:¬ g9=g14:=by omega
          have o10:¬ g10=g14:=by omega
          have o11:¬ g11=g14:=by omega
          have GC:=fun i=>H14.out.at i
          have GZ:=fun i=>H14.out.frozen i
          have RC:=fun i=>HR7.out.at i
          have RZ:=fun i=>HR7.out.frozen i
          have c12:wc.cell? ⟨g12,0,none⟩=some (.int .i64 0):=H12b.out.cell rfl
          have f12:wc.frozen? ⟨g12,0,none⟩=false:=H12b.out.frozen 0
          have i3:=ceilV_i64 p sq
          rw [N3.out] at i3
          have i4:=ceilV_i64 q sq
          rw [N4.out] at i4
          obtain ⟨i31,i32⟩:=i3
          obtain ⟨i41,i42⟩:=i4
          simp only at i31 i32 i41 i42
          clear HBn hbn t4 t5 t6 t7 t8 t9 t10 t11 HR6 H12 m12 m8 m9 m10 m11 mA nn8 nn9 nn10 nn11 nnR
          go_wp2_with fail
          refine Calls.mono (part2_c 114 p sq ea k3 0 g12 _ fnCeil (ceil_v p sq ea k3 N3.out) ?c1 ?c2) ?_;(case c1=>go_simp);(case c2=>go_simp);rintro e wa ⟨rfl,w7,hb7,rfl⟩;have z_w7:=hb7.size;(try simp at z_w7);have Kw7aa:=bq hb7 (w.heap.size);have Kw7ab:=bq hb7 (w.heap.size+1);have K_w7_g8:=bq hb7 (g8);have K_w7_g9:=bq hb7 (g9);have K_w7_g10:=bq hb7 (g10);have K_w7_g11:=bq hb7 (g11);have K_w7_g12:=bq hb7 (g12);have K_w7_g14:=bq hb7 (g14)
          go_wp2_with fail
          refine Calls.mono (part2_c 114 q sq ed k4 (max 0 k3) g12 _ fnCeil (ceil_v q sq ed k4 N4.out) ?c1 ?c2) ?_;(case c1=>go_simp);(case c2=>go_simp);rintro e wb ⟨rfl,w8,hb8,rfl⟩;have z_w8:=hb8.size;(try simp at z_w8);have Kw8aa:=bq hb8 (w.heap.size);have Kw8ab:=bq hb8 (w.heap.size+1);have K_w8_g8:=bq hb8 (g8);have K_w8_g9:=bq hb8 (g9);have K_w8_g10:=bq hb8 (g10);have K_w8_g11:=bq hb8 (g11);have K_w8_g12:=bq hb8 (g12);have K_w8_g14:=bq hb8 (g14)
          go_wp2_with fail
          refine Calls.mono (part2_c 115 r sq eb k5 (max (max 0 k3) k4) g12 _ fnFloor (floor_v r sq eb k5 N5.out) ?c1 ?c2) ?_;(case c1=>go_simp);(case c2=>go_simp);rintro e wd ⟨rfl,w9,hb9,rfl⟩;have z_w9:=hb9.size;(try simp at z_w9);have Kw9aa:=bq hb9 (w.heap.size);have Kw9ab:=bq hb9 (w.heap.size+1);have K_w9_g12:=bq hb9 (g12);have K_w9_g14:=bq hb9 (g14)
          obtain ⟨K,hK⟩:∃ K,max (max (max 0 k3) k4) k5=K:=⟨_,rfl⟩
          rw [hK]
          have hb10:Below w.heap.size w w9:=below_byR
          obtain ⟨w10,hw10⟩:∃ w10,w10=w9.setCell ⟨g12,0,none⟩ (.int .i64 K):=⟨_,rfl⟩
          rw [← hw10]
          have hbh:Below w.heap.size w w10:=by rw [hw10];exact Below.setCell hb10 z12 _
          have d0:w10.cell? ⟨g14,0,none⟩=some (.int .i64 cx):=by rw [hw10];go_simp
          have d1:w10.cell? ⟨g14,1,none⟩=some (.int .i64 cy):=by rw [hw10];go_simp
          have d2:w10.cell? ⟨g14,2,none⟩=some (.int .i64 ea):=by rw [hw10];go_simp
          have d3:w10.cell? ⟨g14,3,none⟩=some (.int .i64 0):=by rw [hw10];go_simp
          have d4:w10.cell? ⟨g14,4,none⟩=some (.int .i64 ed):=by rw [hw10];go_simp
          have dz:∀ i,w10.frozen? ⟨g14,i,none⟩=false:=by intro i;rw [hw10];go_simp
          have h7:(w7.cell? ⟨g12,0,none⟩).isSome=true:=by rw [K_w7_g12.2.1 0,c12];rfl
          have h8:(w8.cell? ⟨g12,0,none⟩).isSome=true:=by rw [K_w8_g12.2.1 0];go_simp
          have h9:(w9.cell? ⟨g12,0,none⟩).isSome=true:=by rw [K_w9_g12.2.1 0];go_simp
          have k12:w10.cell? ⟨g12,0,none⟩=some (.int .i64 K):=by rw [hw10];exact World.cell?_setCell_same' _ _ _ h9
          clear h7 h8 h9
          have q0:w10.cell? ⟨w.heap.size+1,0,none⟩=some (.int .i64 0):=by rw [hw10];go_simp
          have q1:w10.cell? ⟨w.heap.size+1,1,none⟩=some (.int .i64 0):=by rw [hw10];go_simp
          have q2:w10.cell? ⟨w.heap.size+1,2,none⟩=some (.int .i64 0):=by rw [hw10];go_simp
          have q3:w10.cell? ⟨w.heap.size+1,3,none⟩=some (.int .i64 0):=by rw [hw10];go_simp
          have q4:w10.cell? ⟨w.heap.size+1,4,none⟩=some (.int .i64 0):=by rw [hw10];go_simp
          have qz:∀ i,w10.frozen? ⟨w.heap.size+1,i,none⟩=false:=by intro i;rw [hw10];go_simp
          have E1:Hid (F=ellEnd cx cy ea eb ed K):=by rw [← hK];exact E.out
          clear z_w9 Kw9aa Kw9ab K_w9_g12 K_w9_g14
          clear z_w8 Kw8aa Kw8ab K_w8_g8 K_w8_g9 K_w8_g10 K_w8_g11 K_w8_g12 K_w8_g14
          clear z_w7 Kw7aa Kw7ab K_w7_g8 K_w7_g9 K_w7_g10 K_w7_g11 K_w7_g12 K_w7_g14
          clear hb7 hb8 hb9 hb10 hw10 hK u8 u9 u10 u11 v8 v9 v10 v11 GC GZ RC RZ c12 f12 H14 H12b HR7 hbf hbg
          have v14':=block_lt_of_cell d0
          have vA':=block_lt_of_cell q0
          by_cases hk:K=0
          ·subst hk
           by_cases ha:70368744177664≤ea
           ·have E2:Hid (F=(El.zero,2)):=by show _=_;rw [E1.out];unfold ellEnd;rw [if_pos (.inr (.inl ha))]
            go_wp2_with fail
            exact bodyPost_row_t 5 #[.int .i64 0,.int .i64 0,.int .i64 0,.int .i64 0,.int .i64 0] (.int .i64 2) rfl rfl rfl rfl Tryz.underlying27 rfl (by kernel_rfl) (rc5 (by go_simp) (by go_simp) (by go_simp) (by go_simp) (by go_simp)) ⟨by rw [E2.out];rfl,below_byR⟩
           ·by_cases hd:70368744177664≤ed
            ·have E2:Hid (F=(El.zero,2)):=by show _=_;rw [E1.out];unfold ellEnd;rw [if_pos (.inr (.inr hd))]
             go_wp2_with fail
             exact bodyPost_row_t 5 #[.int .i64 0,.int .i64 0,.int .i64 0,.int .i64 0,.int .i64 0] (.int .i64 2) rfl rfl rfl rfl Tryz.underlying27 rfl (by kernel_rfl) (rc5 (by go_simp) (by go_simp) (by go_simp) (by go_simp) (by go_simp)) ⟨by rw [E2.out];rfl,below_byR⟩
            ·have E3:F=if El.may ⟨cx,cy,ea+1,eb,ed+1⟩=true then growE ⟨cx,cy,ea+1,eb,ed+1⟩ 1 else (El.zero,2):=by rw [E1.out];unfold ellEnd;rw [if_neg (by rintro (h|h|h);exact h rfl;exact ha h;exact hd h)]
             have ha':ea<70368744177664:=by omega
             have hd':ed<70368744177664:=by omega
             obtain ⟨m,hm⟩:∃ m,El.may ⟨cx,cy,ea+1,eb,ed+1⟩=m:=⟨_,rfl⟩
             have HM:=Lh hm
             rw [hm] at E3
             clear hm
             go_wp2_with fail
             refine (ellmay_u _ _ _ _ _ _ HM.out _).mono ?_;rintro e we ⟨rfl,hb11⟩;have z_we:=hb11.size;(try simp at z_we);have K_we_g14:=bq hb11 (g14)
             obtain ⟨yR,cR,fR,rR,tR,pR⟩:=bk hb11 (w.heap.size+1) (by simp;omega)
             cases m with
             | false =>
              have E2:Hid (F=(El.zero,2)):=by show _=_;rw [E3];rfl
              clear E3
              go_wp2_with fail
              exact bodyPost_row_t 5 #[.int .i64 0,.int .i64 0,.int .i64 0,.int .i64 0,.int .i64 0] (.int .i64 2) rfl rfl rfl rfl Tryz.underlying27 rfl (by kernel_rfl) (rc5 (by go_simp) (by go_simp) (by go_simp) (by go_simp) (by go_simp)) ⟨by rw [E2.out];rfl,below_byR⟩
             | true =>
              obtain ⟨⟨fx,fy,fa,fb,fd⟩,fk,hF⟩:∃ o k,growE ⟨cx,cy,ea+1,eb,ed+1⟩ 1=(o,k):=⟨_,_,rfl⟩
              have HF:=Lh hF
              have E2:Hid (F=(⟨fx,fy,fa,fb,fd⟩,fk)):=by show _=_;rw [E3,← hF];rfl
              clear E3 hF
              go_wp2_with fail
              refine (growball_v _ _ _ _ _ _ _ _ _ _ _ _ HF.out _).mono ?_;rintro e wf ⟨rfl,hb12⟩
              obtain ⟨yR2,cR2,fR2,rR2,tR2,pR2⟩:=bk hb12 (w.heap.size+1) (by first|omega|(simp;omega))
              have z_wf:=hb12.size;(try simp at z_wf)
              go_wp2_with fail
              exact bodyPost_row_t 5 #[.int .i64 fx,.int .i64 fy,.int .i64 fa,.int .i64 fb,.int .i64 fd] (.int .i64 fk) rfl rfl rfl rfl Tryz.underlying27 rfl (by kernel_rfl) (rc5 (by go_simp) (by go_simp) (by go_simp) (by go_simp) (by go_simp)) ⟨by rw [E2.out],below_byR⟩
          ·have nk:(K != 0)=true:=by simp [hk]
           have E2:Hid (F=(El.zero,2)):=by show _=_;rw [E1.out];unfold ellEnd;rw [if_pos (.inl hk)]
           go_wp2_with fail
           exact bodyPost_row_t 5 #[.int .i64 0,.int .i64 0,.int .i64 0,.int .i64 0,.int .i64 0] (.int .i64 2) rfl rfl rfl rfl Tryz.underlying27 rfl (by kernel_rfl) (rc5 (by go_simp) (by go_simp) (by go_simp) (by go_simp) (by go_simp)) ⟨by rw [E2.out];rfl,below_byR⟩
end Go.Proofs.YtilginoibhfeiaaGreat
