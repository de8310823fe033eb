/- Laws and walks that the claim names. -/
import Derived.Test.YtnoidlacjiafdaaGreatS0
namespace Go.Proofs.YtnoidlacjiafdaaGreat
set_option maxRecDepth 100000
set_option maxHeartbeats 16000000
set_option linter.unusedSimpArgs false
set_option linter.unusedVariables false
open Go.RowKit
theorem DM (x y p q:WI) (g8 g9:Nat) (w:World) (h8:w.row? g8 0 18=some p.cells) (h9:w.row? g9 0 18=some q.cells) :
  Calls Tryz.prog 155 #[.agg x.cells,.agg y.cells,.pointer (some ⟨g8,0,none⟩),.pointer (some ⟨g9,0,none⟩)] w fun e w'=>e = .returned (.agg (cK x p y q).cells)∧Below w.heap.size w w':=by
 have l8:=aL h8;have l9:=aL h9;have a1:g8<w.heap.size+1:=by omega
 have a2:g8<w.heap.size+1+1:=by omega
 have a3:g9<w.heap.size+1:=by omega
 have a4:g9<w.heap.size+1+1:=by omega
 go_enter Tryz.func155,Tryz.ntmps155;go_wp2_with fail;refine(oO x p y q _ _ (Blk.new' _ _ _ (by simp))).mono ?_;rintro e w1 ⟨rfl,hb1⟩;have z_w1:=hb1.size;(try simp at z_w1);have K_w1_0:=bq3 hb1 (w.heap.size);go_wp2_with fail;exact ak 18 (cK x p y q).cells rfl rfl rfl Tryz.underlying47 rfl aE (by go_simp) ⟨rfl,ad⟩
theorem vO (a0 a1 a2 a3 a4 a5 a6 b0 b1 b2 b3 b4 b5 b6:WI) (k:Int) (h0:0≤k) (h1:k≤34) (P Q:WI) (hP:(WI.of k).mul b6=P) (hQ:(WI.of (34-k)).mul a6=Q) (w:World) :
  Calls Tryz.prog 142 #[.agg (blk [a0,a1,a2,a3,a4,a5,a6]),.agg (blk [b0,b1,b2,b3,b4,b5,b6]),.int .i64 k] w fun e w'=>e = .returned (.tuple #[.agg (blk [cK a0 P b0 Q,cK a1 P b1 Q,cK a2 P b2 Q,cK a3 P b3 Q,cK a4 P b4 Q,cK a5 P b5 Q,(WI.of 34).mul (a6.mul b6)]),.int .i64 0])∧Below w.heap.size w w':=by
 have K:Hid (I64 k∧I64 (34-k)∧I64 34):=by unfold Hid I64;omega
 have HP:=Lh hP;have HQ:=Lh hQ;clear hP hQ;go_enter Tryz.func142,Tryz.ntmps142;go_wp2_with fail;obtain⟨w3,hw3⟩:∃ w3,w3=((w.alloc (Obj.cells (blk [a0,a1,a2,a3,a4,a5,a6]) 49)).alloc (Obj.cells (blk [b0,b1,b2,b3,b4,b5,b6]) 49)).alloc (Obj.cells (blk [WI.of 0,WI.of 0,WI.of 0,WI.of 0,WI.of 0,WI.of 0,WI.of 0]) 49):=⟨_,rfl⟩;rw[← hw3];have HI:Hid (Blk w3 w.heap.size (blk [a0,a1,a2,a3,a4,a5,a6]) 49):=by rw[hw3];exact((Blk.new _ _ _).alloc _).alloc _
 have HJ:Hid (Blk w3 (w.heap.size+1) (blk [b0,b1,b2,b3,b4,b5,b6]) 49):=by rw[hw3];exact(Blk.new' _ _ _ (by simp)).alloc _
 have HR:Hid (Blk w3 (w.heap.size+1+1) (blk [WI.of 0,WI.of 0,WI.of 0,WI.of 0,WI.of 0,WI.of 0,WI.of 0]) 49):=by rw[hw3];exact Blk.new' _ _ _ (by simp)
 have hb3:Below w.heap.size w w3:=by rw[hw3];exact ad
 have sz3:w3.heap.size=w.heap.size+1+1+1:=by rw[hw3];simp
 clear hw3;go_cut [8] from 9 (fun s8 wc=>∃ g,s8 = .pointer (some ⟨g,0,none⟩)∧w3.heap.size≤g∧Hid (wc.row? g 0 18=some P.cells)∧Hid (Below w3.heap.size w3 wc))
 case first =>
  have j6:=@aA _ _ _ _ _ ((HJ.out.row? 108 18 (by simp)).trans (congrArg some (mS _ _ _ _ _ _ _ _)));refine aB 6 (fun k=>match k with|5=>some ⟨.cells (cellsI false false 0) 47,fun g => .pointer (some ⟨g,0,none⟩)⟩|_=>none) (fun _=>[]) (by kernel_rfl) (by kernel_rfl) ?_;apply Eb;apply Eb;apply Eb;apply Eb;apply Eb;apply Ef;refine⟨[],fun gg NN hN=>?_⟩;simp only[List.take_succ_cons,List.take_zero,List.drop_succ_cons,List.drop_zero];(repeat (first|(refine bi rfl ?_;go_big_quiet_step (first|exact rfl|(first|(go_at_call 39;exact aF (eg _ K.out.1.1 K.out.1.2 _))|(go_at_call 42;exact aF (cN _ _ _))));refine wpQuiet_nil ⟨rfl,?_⟩)|(refine bK _ (by rfl) (by rfl) ?hex ?_;(case hex=>(intro wx;first|(go_simp;done)|(go_simp;rfl)));simp only[Act.put,List.setIfInBounds_toArray,List.set_cons_succ,List.set_cons_zero])));refine bF ?_;intro w4 hb4' hh _;have hb4:Below w3.heap.size w3 w4:=hb4';obtain⟨l8,e8⟩:=hh 5 _ (by decide) rfl;clear hh hb4';have G8:Hid (Blk w4 (gg 5) (cellsI false false 0) 47):=e8;rw[HP.out];have hp8:w4.put? (gg 5) 0 P.cells=some (w4.putRow (gg 5) 0 P.cells):=G8.out.put? 0 _ (by simp) (by simp);clear e8 j6;go_wp2_with fail;go_meet;exact⟨gg 5,rfl,l8,cP hp8 (by simp),ar hb4 l8 _ _⟩
 case rest =>
  obtain⟨g8,rfl,l8,r8,HB4⟩:=hcut;have hb4:=HB4.out;have HI2:=Lh (HI.out.keep hb4);have HJ2:=Lh (HJ.out.keep hb4);have HR2:=Lh (HR.out.keep hb4);go_wp2_with fail;go_cut [9] from 10 (fun s9 we=>∃ g,s9 = .pointer (some ⟨g,0,none⟩)∧w3.heap.size≤g∧Hid (we.row? g 0 18=some Q.cells)∧Hid (Below wc.heap.size wc we))
  case first =>
   have i6:=@aA _ _ _ _ _ ((HI2.out.row? 108 18 (by simp)).trans (congrArg some (mS _ _ _ _ _ _ _ _)));refine aB 7 (fun k=>match k with|6=>some ⟨.cells (cellsI false false 0) 47,fun g => .pointer (some ⟨g,0,none⟩)⟩|_=>none) (fun _=>[]) (by kernel_rfl) (by kernel_rfl) ?_;apply Eb;apply Eb;apply Eb;apply Eb;apply Eb;apply Eb;apply Ef;refine⟨[],fun gg NN hN=>?_⟩;simp only[List.take_succ_cons,List.take_zero,List.drop_succ_cons,List.drop_zero];(repeat (first|(refine bi rfl ?_;go_big_quiet_step (first|exact rfl|(first|(go_at_call 39;exact aF (eg _ K.out.2.1.1 K.out.2.1.2 _))|(go_at_call 42;exact aF (cN _ _ _))));refine wpQuiet_nil ⟨rfl,?_⟩)|(refine bK _ (by rfl) (by rfl) ?hex ?_;(case hex=>(intro wx;first|(go_simp;done)|(go_simp;rfl)));simp only[Act.put,List.setIfInBounds_toArray,List.set_cons_succ,List.set_cons_zero])));refine bF ?_;intro w4 hb5' hh _;have hb5:Below wc.heap.size wc w4:=hb5';obtain⟨l9,e9⟩:=hh 6 _ (by decide) rfl;clear hh hb5';have G9:Hid (Blk w4 (gg 6) (cellsI false false 0) 47):=e9;rw[HQ.out];have hp9:w4.put? (gg 6) 0 Q.cells=some (w4.putRow (gg 6) 0 Q.cells):=G9.out.put? 0 _ (by simp) (by simp);clear e9 i6;go_wp2_with fail;go_meet;exact⟨gg 6,rfl,Nat.le_trans hb4.size l9,cP hp9 (by simp),ar hb5 l9 _ _⟩
  case rest =>
   obtain⟨g9,rfl,l9,r9,HB5⟩:=hcut;have hb5:=HB5.out;have HI3:=Lh (HI2.out.keep hb5);have HJ3:=Lh (HJ2.out.keep hb5);have HR3:=Lh (HR2.out.keep hb5);have hbw:Below w3.heap.size w3 wc:=Below.trans hb4 (hb5.mono hb4.size);have k8:=@aA _ _ _ _ _ ((Below.row? hb5 g8 0 18 (aL r8.out)).trans r8.out);have k9:=@aA _ _ _ _ _ r9.out;have i0:=@aA _ _ _ _ _ ((HI3.out.row? 0 18 (by simp)).trans (congrArg some (gK _ _)));have i1:=@aA _ _ _ _ _ ((HI3.out.row? 18 18 (by simp)).trans (congrArg some (gJ _ _ _)));have i2:=@aA _ _ _ _ _ ((HI3.out.row? 36 18 (by simp)).trans (congrArg some (iK _ _ _ _)));have i3:=@aA _ _ _ _ _ ((HI3.out.row? 54 18 (by simp)).trans (congrArg some (jQ _ _ _ _ _)));have i4:=@aA _ _ _ _ _ ((HI3.out.row? 72 18 (by simp)).trans (congrArg some (jP _ _ _ _ _ _)));have i5:=@aA _ _ _ _ _ ((HI3.out.row? 90 18 (by simp)).trans (congrArg some (tG _ _ _ _ _ _ _)));have i6:=@aA _ _ _ _ _ ((HI3.out.row? 108 18 (by simp)).trans (congrArg some (mS _ _ _ _ _ _ _ _)));have j0:=@aA _ _ _ _ _ ((HJ3.out.row? 0 18 (by simp)).trans (congrArg some (gK _ _)));have j1:=@aA _ _ _ _ _ ((HJ3.out.row? 18 18 (by simp)).trans (congrArg some (gJ _ _ _)));have j2:=@aA _ _ _ _ _ ((HJ3.out.row? 36 18 (by simp)).trans (congrArg some (iK _ _ _ _)));have j3:=@aA _ _ _ _ _ ((HJ3.out.row? 54 18 (by simp)).trans (congrArg some (jQ _ _ _ _ _)));have j4:=@aA _ _ _ _ _ ((HJ3.out.row? 72 18 (by simp)).trans (congrArg some (jP _ _ _ _ _ _)));have j5:=@aA _ _ _ _ _ ((HJ3.out.row? 90 18 (by simp)).trans (congrArg some (tG _ _ _ _ _ _ _)));have j6:=@aA _ _ _ _ _ ((HJ3.out.row? 108 18 (by simp)).trans (congrArg some (mS _ _ _ _ _ _ _ _)));go_wp2_with fail;refine aB 44 (fun _=>none) (fun _=>[]) (by kernel_rfl) (by kernel_rfl) ?_;apply Eb;apply Eb;apply Eb;apply Eb;apply Eb;apply Eb;apply Eb;apply Eb;apply Eb;apply Eb;apply Eb;apply Eb;apply Eb;apply Eb;apply Eb;apply Eb;apply Eb;apply Eb;apply Eb;apply Eb;apply Eb;apply Eb;apply Eb;apply Eb;apply Eb;apply Eb;apply Eb;apply Eb;apply Eb;apply Eb;apply Eb;apply Eb;apply Eb;apply Eb;apply Eb;apply Eb;apply Eb;apply Eb;apply Eb;apply Eb;apply Eb;apply Eb;apply Eb;apply Eb;refine⟨[],fun gg NN hN=>?_⟩;simp only[List.take_succ_cons,List.take_zero,List.drop_succ_cons,List.drop_zero];(repeat (refine bi rfl ?_;go_big_quiet_step (first|exact rfl|(first|(go_at_call 42;exact aF (cN _ _ _))|(go_at_call 155;rename_i px;exact aF (DM _ _ P Q g8 g9 _ (k8 px) (k9 px)))|(go_at_call 39;exact aF (eg _ K.out.2.2.1 K.out.2.2.2 _))));refine wpQuiet_nil ⟨rfl,?_⟩));refine bF ?_;intro w8 hb8' _ _;have hb8:Below wc.heap.size wc w8:=hb8';clear hb8' k8 k9 i0 j0 i1 j1 i2 j2 i3 j3 i4 j4 i5 j5 i6 j6;have HR4:=Lh (HR3.out.keep hb8);have hpR:=HR4.out.put? 0 (blk [cK a0 P b0 Q,cK a1 P b1 Q,cK a2 P b2 Q,cK a3 P b3 Q,cK a4 P b4 Q,cK a5 P b5 Q,(WI.of 34).mul (a6.mul b6)]) (by simp) (by simp);have rR:=cP hpR (n:=126) (by simp);have hbe:Below w.heap.size w w8:=Below.trans hb3 ((Below.trans hbw (hb8.mono hbw.size)).mono hb3.size);go_wp2_with fail;exact az 126 _ (.int .i64 0) rfl rfl rfl rfl Tryz.underlying49 rfl dZ rR ⟨rfl,ar hbe (by omega) _ _⟩
theorem yh (a0 a1 a2 a3 a4 a5 a6 b0 b1 b2 b3 b4 b5 b6:WI) (k:Int) (h:k<0∨34<k) (w:World) :
  Calls Tryz.prog 142 #[.agg (blk [a0,a1,a2,a3,a4,a5,a6]),.agg (blk [b0,b1,b2,b3,b4,b5,b6]),.int .i64 k] w fun e w'=>e = .returned (.tuple #[.agg (blk [WI.of 0,WI.of 0,WI.of 0,WI.of 0,WI.of 0,WI.of 0,WI.of 0]),.int .i64 1])∧Below w.heap.size w w':=by
 by_cases h1:k<0
 ·clear h;go_enter Tryz.func142,Tryz.ntmps142;go_wp2_with fail;exact az 126 (blk [WI.of 0,WI.of 0,WI.of 0,WI.of 0,WI.of 0,WI.of 0,WI.of 0]) (.int .i64 1) rfl rfl rfl rfl Tryz.underlying49 rfl dZ (by go_simp) ⟨rfl,ad⟩
 ·have h2:34<k:=by omega
  clear h;go_enter Tryz.func142,Tryz.ntmps142;go_wp2_with fail;exact az 126 (blk [WI.of 0,WI.of 0,WI.of 0,WI.of 0,WI.of 0,WI.of 0,WI.of 0]) (.int .i64 1) rfl rfl rfl rfl Tryz.underlying49 rfl dZ (by go_simp) ⟨rfl,ad⟩
def mixI (i j:Iq) (k:Int):Iq:=⟨i.A*(k*j.N)+j.A*((34-k)*i.N),i.B*(k*j.N)+j.B*((34-k)*i.N),i.D*(k*j.N)+j.D*((34-k)*i.N),i.U*(k*j.N)+j.U*((34-k)*i.N),
 i.V*(k*j.N)+j.V*((34-k)*i.N),i.Z*(k*j.N)+j.Z*((34-k)*i.N),34*(i.N*j.N)⟩
def mixQ (i j:Iq) (k:Int):Iq × Int:=if 0≤k∧k≤34 then (mixI i j k,0) else (Iq.zero,1)
structure Iq.Sml (n:Nat) (i:Iq):Prop where
 A:Sm n i.A
 B:Sm n i.B
 D:Sm n i.D
 U:Sm n i.U
 V:Sm n i.V
 Z:Sm n i.Z
 N:Sm n i.N
theorem FB (i j:Iq) (hi:i.Sml 120) (hj:j.Sml 120) (k:Int) (w:World) :
  Calls Tryz.prog 142 #[iqV i,iqV j,.int .i64 k] w fun e w'=>e = .returned (.tuple #[iqV (mixQ i j k).1,.int .i64 (mixQ i j k).2])∧Below w.heap.size w w':=by
 by_cases h:0≤k∧k≤34
 ·have e:mixQ i j k=(mixI i j k,0):=by unfold mixQ;rw[if_pos h]
  have kk:Sm 120 k:=(Sm.of64 (by omega) (by omega)).mono (by decide);have k2:Sm 120 (34-k):=(Sm.of64 (by omega) (by omega)).mono (by decide);have k3:Sm 120 34:=(Sm.of64 (by decide) (by decide)).mono (by decide);have hP:(WI.of k).mul (WI.of j.N)=WI.of (k*j.N):=WI.au (kk.lim (by decide)) (hj.N.lim (by decide));have hQ:(WI.of (34-k)).mul (WI.of i.N)=WI.of ((34-k)*i.N):=WI.au (k2.lim (by decide)) (hi.N.lim (by decide));have sP:=kk.mul hj.N;have sQ:=k2.mul hi.N
  have key:∀ a b,Sm 120 a→Sm 120 b→cK (WI.of a) (WI.of (k*j.N)) (WI.of b) (WI.of ((34-k)*i.N))=WI.of (a*(k*j.N)+b*((34-k)*i.N)):=fun a b ha hb =>
   kR (j:=240) _ _ _ _ (ha.mono (by decide)) sP (hb.mono (by decide)) sQ (by decide)
  have hN:(WI.of 34).mul ((WI.of i.N).mul (WI.of j.N))=WI.of (34*(i.N*j.N)):=by
   rw[WI.au (hi.N.lim (by decide)) (hj.N.lim (by decide)),WI.au (k3.lim (by decide)) ((hi.N.mul hj.N).lim (by decide))]
  have:=vO (WI.of i.A) (WI.of i.B) (WI.of i.D) (WI.of i.U) (WI.of i.V) (WI.of i.Z) (WI.of i.N) (WI.of j.A) (WI.of j.B) (WI.of j.D) (WI.of j.U) (WI.of j.V) (WI.of j.Z) (WI.of j.N) k h.1 h.2 _ _ hP hQ w;rw[key _ _ hi.A hj.A,key _ _ hi.B hj.B,key _ _ hi.D hj.D,key _ _ hi.U hj.U,key _ _ hi.V hj.V,key _ _ hi.Z hj.Z,hN] at this;rw[e];exact this
 ·have e:mixQ i j k=(Iq.zero,1):=by unfold mixQ;rw[if_neg h]
  rw[e];exact yh _ _ _ _ _ _ _ _ _ _ _ _ _ _ k (by omega) w
def ew (l:List WI):Bool:=l.any (·.ov)
theorem BX {w:World} {g:Nat} {l:List WI} {t:TypeId} (h:Blk w g (blk l) t) (k:Nat) (x:WI) (hx:l[k]? = some x):w.row? g (18*k) 18=some x.cells:=by
 have hk:k<l.length:=(List.getElem?_eq_some_iff.1 hx).1;rw[h.row? (18*k) 18 (by rw[js];omega),gL l k x hx]
theorem DB (x:WI) (b:Bool) (h:x.ov=b) (w:World) :
  Calls Tryz.prog 114 #[.agg x.cells] w fun e w'=>e = .returned (.bool b)∧Below w.heap.size w w':=by
 subst h;exact gb x w
theorem xQ (l:List WI) (g:Nat) (w:World) (hl:l.length≤1000) (hall:ew l=false) (hg:w.heap[g]? = some (.cells (blk l) 47 (0,0))) :
  Calls Tryz.prog 52 #[.slice (some ⟨g,0,none⟩) l.length l.length] w fun e w'=>e = .returned (.bool false)∧Below w.heap.size w w':=by
 have HG:Hid (Blk w g (blk l) 47):=hg;have HA:=Lh hall;have lg:=HG.out.lt;clear hg hall;go_enter Tryz.func52,Tryz.ntmps52;go_wp2
 go_loopw [7] (fun i wr=>∃ k:Nat,k≤l.length∧i = .int .i64 k∧Hid (Below w.heap.size w wr)) (fun i _=>l.length-(intOf i).toNat)
 case atStart=>exact⟨0,by omega,rfl,Below.refl _ _⟩
 case round =>
  obtain⟨k,hk,rfl,HB⟩:=hrel;by_cases hlt:k<l.length
  ·obtain⟨x,hx⟩:∃ x,l[k]? = some x:=⟨_,List.getElem?_eq_getElem hlt⟩
   have hx0:Hid (x.ov=false):=by
    have h:=HA.out;unfold ew at h;rw[List.any_eq_false] at h;have:=h x (List.mem_of_getElem? hx);show x.ov=false;simpa using this
   have g1:=BX (HG.out.keep HB.out) k x hx;have g2:wr.row? g (k*18) 18=some x.cells:=by rw[Nat.mul_comm];exact g1
   have hb:=HB.out;have hk1:(k:Int)<(l.length:Int):=by omega
   have hk0:(0:Int)≤k:=by omega
   clear g1;go_wp2_with fail;refine(DB _ _ hx0.out _).mono ?_;rintro e w1 ⟨rfl,hb1⟩;have s1:=hb.size;go_wp2_with fail;refine⟨⟨k+1,by omega,by go_num,?_⟩,by simp[intOf];omega⟩;exact(show Below _ _ _ from ad)
  ·have hk2:¬ (k:Int)<(l.length:Int):=by omega
   go_wp2_with fail;go_ret;exact⟨rfl,HB.out⟩
theorem FX (a0 a1 a2 a3 a4 a5 a6:WI) (hall:ew [a0,a1,a2,a3,a4,a5,a6]=false) (w:World) :
  Calls Tryz.prog 51 #[.agg (blk [a0,a1,a2,a3,a4,a5,a6])] w fun e w'=>e = .returned (.bool false)∧Below w.heap.size w w':=by
 have HA:=Lh hall;clear hall;go_enter Tryz.func51,Tryz.ntmps51;go_wp2_with fail;refine(xQ [a0,a1,a2,a3,a4,a5,a6] _ _ (by simp) HA.out (Blk.new' _ _ _ (by simp))).mono ?_;rintro e w1 ⟨rfl,hb1⟩;have s1:=hb1.size;simp at s1;go_wp2_with fail;go_ret;exact⟨rfl,ad⟩
def i9 (a0 a1 a2 a3 a4 a5 a6 d:WI):WI:=((a6.sub a5).mul d).add ((cK a2 (a3.mul a3) a0 (a4.mul a4)).add ((WI.of 2).mul (a1.mul (a3.mul a4))).neg)
theorem CE:Hid (-9223372036854775808≤(2:Int)∧(2:Int)≤9223372036854775807):=⟨by decide,by decide⟩
theorem Bk (a0 a1 a2 a3 a4 a5 a6 d:WI) (w:World) :
  Calls Tryz.prog 49 #[.agg (blk [a0,a1,a2,a3,a4,a5,a6]),.agg d.cells] w fun e w'=>e = .returned (.agg (i9 a0 a1 a2 a3 a4 a5 a6 d).cells)∧Below w.heap.size w w':=by
 go_enter Tryz.func49,Tryz.ntmps49;go_wp2_with fail;obtain⟨wc,hw3⟩:∃ w3,w3=((w.alloc (Obj.cells (blk [a0,a1,a2,a3,a4,a5,a6]) 49)).alloc (Obj.cells d.cells 47)).alloc (Obj.cells (cellsI false false 0) 47):=⟨_,rfl⟩;rw[← hw3];have HI:Hid (Blk wc w.heap.size (blk [a0,a1,a2,a3,a4,a5,a6]) 49):=by rw[hw3];exact((Blk.new _ _ _).alloc _).alloc _
 have r3:Hid (wc.row? (w.heap.size+1) 0 18=some d.cells):=by
  have:Blk wc (w.heap.size+1) d.cells 47:=by rw[hw3];exact(Blk.new' _ _ _ (by simp)).alloc _
  exact this.row?_all 18 (by simp)
 have HR:Hid (Blk wc (w.heap.size+1+1) (cellsI false false 0) 47):=by rw[hw3];exact Blk.new' _ _ _ (by simp)
 have hbw:Below w.heap.size w wc:=by rw[hw3];exact ad
 clear hw3;go_cut [5] from 6 (fun s5 we=>∃ g5,s5 = .pointer (some ⟨g5,0,none⟩)∧w.heap.size≤g5∧Hid (we.row? g5 0 18=some (cK a2 (a3.mul a3) a0 (a4.mul a4)).cells)∧Hid (Below wc.heap.size wc we))
 case first =>
  have i0:=@aA _ _ _ _ _ ((HI.out.row? 0 18 (by simp)).trans (congrArg some (gK _ _)));have i2:=@aA _ _ _ _ _ ((HI.out.row? 36 18 (by simp)).trans (congrArg some (iK _ _ _ _)));have i3:=@aA _ _ _ _ _ ((HI.out.row? 54 18 (by simp)).trans (congrArg some (jQ _ _ _ _ _)));have i4:=@aA _ _ _ _ _ ((HI.out.row? 72 18 (by simp)).trans (congrArg some (jP _ _ _ _ _ _)));refine aB 17 (fun k=>match k with|14=>some ⟨.cells (blk [a2,a3.mul a3,a0,a4.mul a4]) 47,fun g => .slice (some ⟨g,0,none⟩) 4 4⟩|16=>some ⟨.cells (cellsI false false 0) 47,fun g => .pointer (some ⟨g,0,none⟩)⟩|_=>none) (fun k=>match k with|15=>[14]|_=>[]) (by kernel_rfl) (by kernel_rfl) ?_;apply Eb;apply Eb;apply Eb;apply Eb;apply Eb;apply Eb;apply Eb;apply Eb;apply Eb;apply Eb;apply Eb;apply Eb;apply Eb;apply Eb;apply Ef;apply Eb;apply Ef;refine⟨[],fun gg NN hN=>?_⟩;simp only[List.take_succ_cons,List.take_zero,List.drop_succ_cons,List.drop_zero];(repeat (first|(refine bi rfl ?_;go_big_quiet_step (first|exact rfl|(first|(go_at_call 42;exact aF (cN _ _ _))|(go_at_call 113;rename_i px;exact aF (oO _ _ _ _ _ _ (px.has 14 (hN 15 14 (by simp)) _ rfl).2))));refine wpQuiet_nil ⟨rfl,?_⟩)|(refine bK _ (by rfl) (by rfl) ?hex ?_;(case hex=>(intro wx;first|(go_simp;done)|(go_simp;rfl)));simp only[Act.put,List.setIfInBounds_toArray,List.set_cons_succ,List.set_cons_zero])));refine bF ?_;intro wn hbn' hh hd;have hbn:Below wc.heap.size wc wn:=hbn';obtain⟨l5,e5⟩:=hh 16 _ (by decide) rfl;have G5:Hid (Blk wn (gg 16) (cellsI false false 0) 47):=e5;have hp5:(wn).put? (gg 16) 0 (cK a2 (a3.mul a3) a0 (a4.mul a4)).cells=some ((wn).putRow (gg 16) 0 (cK a2 (a3.mul a3) a0 (a4.mul a4)).cells):=(G5.out).put? 0 _ (by simp) (by simp);clear hh hd hbn' e5 i0 i2 i3 i4;go_wp2_with fail;go_meet;refine⟨gg 16,rfl,Nat.le_trans hbw.size l5,?_,(ar hbn l5 _ _)⟩
  ·show _=_;rw[(((G5.out).aK 0 (cK a2 (a3.mul a3) a0 (a4.mul a4)).cells)).row? 0 18 (by simp)];simp
 case rest =>
  obtain⟨g5,rfl,l5,r5,HBN⟩:=hcut;have hbn:=HBN.out;have hbw2:=Below.trans hbw (hbn.mono hbw.size);clear hbw;have hbw:=hbw2;clear hbw2;have HI2:=Lh (HI.out.keep hbn);clear HI;have HI:=HI2;clear HI2;have r3:=Lh ((Below.row? hbn _ 0 18 (aL r3.out)).trans r3.out);have HR2:=Lh (HR.out.keep hbn);clear HR;have HR:=HR2;clear HR2;clear hbn HBN;go_wp2_with fail;go_cut [6] from 7 (fun s6 we=>∃ g6,s6 = .pointer (some ⟨g6,0,none⟩)∧w.heap.size≤g6∧Hid (we.row? g6 0 18=some ((WI.of 2).mul (a1.mul (a3.mul a4))).cells)∧Hid (Below wc.heap.size wc we))
  case first =>
   have i1:=@aA _ _ _ _ _ ((HI.out.row? 18 18 (by simp)).trans (congrArg some (gJ _ _ _)));have i3:=@aA _ _ _ _ _ ((HI.out.row? 54 18 (by simp)).trans (congrArg some (jQ _ _ _ _ _)));have i4:=@aA _ _ _ _ _ ((HI.out.row? 72 18 (by simp)).trans (congrArg some (jP _ _ _ _ _ _)));refine aB 11 (fun k=>match k with|10=>some ⟨.cells (cellsI false false 0) 47,fun g => .pointer (some ⟨g,0,none⟩)⟩|_=>none) (fun _=>[]) (by kernel_rfl) (by kernel_rfl) ?_;apply Eb;apply Eb;apply Eb;apply Eb;apply Eb;apply Eb;apply Eb;apply Eb;apply Eb;apply Eb;apply Ef;refine⟨[],fun gg NN hN=>?_⟩;simp only[List.take_succ_cons,List.take_zero,List.drop_succ_cons,List.drop_zero];(repeat (first|(refine bi rfl ?_;go_big_quiet_step (first|exact rfl|(first|(go_at_call 42;exact aF (cN _ _ _))|(go_at_call 39;exact aF (eg _ CE.out.1 CE.out.2 _))));refine wpQuiet_nil ⟨rfl,?_⟩)|(refine bK _ (by rfl) (by rfl) ?hex ?_;(case hex=>(intro wx;first|(go_simp;done)|(go_simp;rfl)));simp only[Act.put,List.setIfInBounds_toArray,List.set_cons_succ,List.set_cons_zero])));refine bF ?_;intro wn hbn' hh hd;have hbn:Below wc.heap.size wc wn:=hbn';obtain⟨l6,e6⟩:=hh 10 _ (by decide) rfl;have G6:Hid (Blk wn (gg 10) (cellsI false false 0) 47):=e6;have hp6:(wn).put? (gg 10) 0 ((WI.of 2).mul (a1.mul (a3.mul a4))).cells=some ((wn).putRow (gg 10) 0 ((WI.of 2).mul (a1.mul (a3.mul a4))).cells):=(G6.out).put? 0 _ (by simp) (by simp);clear hh hd hbn' e6 i1 i3 i4;go_wp2_with fail;go_meet;refine⟨gg 10,rfl,Nat.le_trans hbw.size l6,?_,(ar hbn l6 _ _)⟩
   ·show _=_;rw[(((G6.out).aK 0 ((WI.of 2).mul (a1.mul (a3.mul a4))).cells)).row? 0 18 (by simp)];simp
  case rest =>
   obtain⟨g6,rfl,l6,r6,HBN⟩:=hcut;have hbn:=HBN.out;have hbw2:=Below.trans hbw (hbn.mono hbw.size);clear hbw;have hbw:=hbw2;clear hbw2;have HI2:=Lh (HI.out.keep hbn);clear HI;have HI:=HI2;clear HI2;have r5:=Lh ((Below.row? hbn g5 0 18 (aL r5.out)).trans r5.out);have r3:=Lh ((Below.row? hbn _ 0 18 (aL r3.out)).trans r3.out);have HR2:=Lh (HR.out.keep hbn);clear HR;have HR:=HR2;clear HR2;clear hbn HBN;have i5:=@aA _ _ _ _ _ ((HI.out.row? 90 18 (by simp)).trans (congrArg some (tG _ _ _ _ _ _ _)));have i6:=@aA _ _ _ _ _ ((HI.out.row? 108 18 (by simp)).trans (congrArg some (mS _ _ _ _ _ _ _ _)));have k3:=@aA _ _ _ _ _ r3.out;have k5:=@aA _ _ _ _ _ r5.out;have k6:=@aA _ _ _ _ _ r6.out;go_wp2_with fail;refine aB 12 (fun _=>none) (fun _=>[]) (by kernel_rfl) (by kernel_rfl) ?_;apply Eb;apply Eb;apply Eb;apply Eb;apply Eb;apply Eb;apply Eb;apply Eb;apply Eb;apply Eb;apply Eb;apply Eb;refine⟨[],fun gg NN hN=>?_⟩;simp only[List.take_succ_cons,List.take_zero,List.drop_succ_cons,List.drop_zero];(repeat (refine bi rfl ?_;go_big_quiet_step (first|exact rfl|(first|(go_at_call 42;exact aF (cN _ _ _))|(go_at_call 41;exact aF (mV _ _ _))|(go_at_call 48;exact aF (jY _ _ _))|(go_at_call 50;exact aF (qH _ _))));refine wpQuiet_nil ⟨rfl,?_⟩));refine bF ?_;intro w8 hb8' _ _;have hb8:Below wc.heap.size wc w8:=hb8';clear hb8' i5 i6 k3 k5 k6;have HR4:=Lh (HR.out.keep hb8);have hpR:=HR4.out.put? 0 (i9 a0 a1 a2 a3 a4 a5 a6 d).cells (by simp) (by simp);have rR:=cP hpR (n:=18) (by simp);have hbe:Below w.heap.size w w8:=Below.trans hbw (hb8.mono hbw.size);unfold i9 at hpR rR;go_wp2_with fail;exact ak 18 _ rfl rfl rfl Tryz.underlying47 rfl aE rR ⟨rfl,ar hbe (by omega) _ _⟩
theorem ol:I64 0:=⟨by decide,by decide⟩
theorem WI.Bt (x:WI):I64 x.i64.1:=by
 unfold WI.i64;split
 ·split
  ·rename_i h;exact h
  ·exact ol
 ·exact ol
theorem kv (x:WI) (e:Int):I64 (aV x e).1:=by
 unfold aV;split
 ·exact ol
 ·split
  ·exact x.Bt
  ·exact ol
theorem td (x y:WI):I64 (floorV x y).1:=by
 unfold floorV;split
 ·exact ol
 ·exact kv _ _
theorem io (x y:WI):I64 (bP x y).1:=by
 unfold bP;split
 ·exact ol
 ·exact kv _ _
@[go_sem] theorem row?_setCell_other {w : World} {g i : Nat} {v : Value} {b o n : Nat} (h : b ≠ g) : (w.setCell ⟨g, i, none⟩ v).row? b o n = w.row? b o n := by
  unfold World.row?;rw[heap_setCell_other _ _ _ _ h]
@[go_sem] theorem th {w : World} {g i : Nat} {v : Value} {b n : Nat} (h : b ≠ g) : (w.setCell ⟨g, i, none⟩ v).fits b n = w.fits b n := by
  unfold World.fits;rw[heap_setCell_other _ _ _ _ h]
theorem DK (x y:WI) (n e:Int) (h:bR x y=(n,e)) (w:World) :
  Calls Tryz.prog 55 #[.agg x.cells,.agg y.cells] w fun r w'=>r = .returned (.tuple #[.int .i64 n,.int .i64 e])∧Below w.heap.size w w':=by
 have:=DL x y w;rw[h] at this;exact this
theorem yX (x y:WI) (n e:Int) (h:bP x y=(n,e)) (w:World) :
  Calls Tryz.prog 56 #[.agg x.cells,.agg y.cells] w fun r w'=>r = .returned (.tuple #[.int .i64 n,.int .i64 e])∧Below w.heap.size w w':=by
 have:=Ei x y w;rw[h] at this;exact this
theorem Bz (x y:WI) (n e:Int) (h:floorV x y=(n,e)) (w:World) :
  Calls Tryz.prog 57 #[.agg x.cells,.agg y.cells] w fun r w'=>r = .returned (.tuple #[.int .i64 n,.int .i64 e])∧Below w.heap.size w w':=by
 have:=uy x y w;rw[h] at this;exact this
theorem D3:∀ args w,Sem.run Tryz.prog (callFunc 55 args) w = .ok (.enter 55 args) w:=by intro args w;rfl
theorem yB:∀ args w,Sem.run Tryz.prog (callFunc 56 args) w = .ok (.enter 56 args) w:=by intro args w;rfl
theorem By:∀ args w,Sem.run Tryz.prog (callFunc 57 args) w = .ok (.enter 57 args) w:=by intro args w;rfl
def cm (cx cy a b d e:Int):El × Int :=
 if e≠0∨70368744177664≤a∨70368744177664≤d then (El.zero,2)
 else if El.may ⟨cx,cy,a+1,b,d+1⟩=true then growE ⟨cx,cy,a+1,b,d+1⟩ 1 else (El.zero,2)
theorem kU (fn:FuncId) (x y:WI) (n e bad:Int) (g:Nat) (w:World) (hfn:∀ args w,Sem.run Tryz.prog (callFunc fn args) w = .ok (.enter fn args) w)
  (H:∀ w,Calls Tryz.prog fn #[.agg x.cells,.agg y.cells] w fun r w'=>r = .returned (.tuple #[.int .i64 n,.int .i64 e])∧Below w.heap.size w w')
  (c0:w.cell? ⟨g,0,none⟩=some (.int .i64 bad)) (f0:w.frozen? ⟨g,0,none⟩=false) :
  Calls Tryz.prog 54 #[.func (.func fn) #[] #[],.agg x.cells,.agg y.cells,.pointer (some ⟨g,0,none⟩)] w
   fun r w'=>r = .returned (.int .i64 n)∧∃ w1,Below w.heap.size w w1∧w'=w1.setCell ⟨g,0,none⟩ (.int .i64 (max bad e)):=by
 have HH:=Lh H;have lg:g<w.heap.size:=block_lt_of_cell c0;have a1:g<w.heap.size+1:=by omega
 clear H;go_enter Tryz.func54,Tryz.ntmps54;go_wp2_with fail;refine(HH.out _).mono ?_;rintro e' w1 ⟨rfl,hb1⟩;have z_w1:=hb1.size;(try simp at z_w1);have Kw1aa:=bq hb1 (w.heap.size);have Kw1ab:=bq hb1 (w.heap.size+1);have K_w1_g:=bq hb1 (g);go_wp2_with fail;go_ret;exact⟨rfl,w1,ad,rfl⟩
theorem yI (x y a b d:Int) (m:Bool) (h:El.may ⟨x,y,a,b,d⟩=m) (w:World) :
  Calls Tryz.prog 17 #[elC x y a b d] w fun e w'=>e = .returned (.bool m)∧Below w.heap.size w w':=by
 subst h;exact bD x y a b d w
theorem ah.row? {g:Nat} {w w':World} (h:ah g w w') (b o n:Nat) (hb:b<w.heap.size) (hne:b≠g):w'.row? b o n=w.row? b o n:=by
 unfold World.row?;rw[h.block b hb hne]
structure ct (w:World) (g:Nat) (K:Int) (v:World):Prop where
 lt:g<w.heap.size
 only:ah g w v
 blk:Blk v g #[.int .i64 K] 30
theorem ct.drew {w v:World} {g:Nat} {K:Int} (h:ct w g K v):ct w g K v.drew:=⟨h.lt,h.only.drew,h.blk.drew⟩
theorem ct.alloc {w v:World} {g:Nat} {K:Int} (h:ct w g K v) (o:Obj):ct w g K (v.alloc o):=⟨h.lt,h.only.alloc o,h.blk.alloc o⟩
theorem ct.fc {w v W:World} {g:Nat} {K k:Int} (h:ct w g K v) (hW:ct w g k W) (i:Nat) (x:Value):ct w g K (v.setCell ⟨W.heap.size,i,none⟩ x) :=
 ⟨h.lt,h.only.fc hW.only.size i x,h.blk.ac (by have:=h.lt;have:=hW.only.size;simp only;omega) x⟩
theorem ct.room {w v:World} {g:Nat} {K:Int} (h:ct w g K v):w.heap.size≤v.heap.size:=h.only.size
theorem Blk.put5 {w:World} {g:Nat} {a b c d e:Value} {t:TypeId} (h:Blk w g #[a,b,c,d,e] t) (x y z u v:Value) :
  Blk (((((w.setCell ⟨g,0,none⟩ x).setCell ⟨g,1,none⟩ y).setCell ⟨g,2,none⟩ z).setCell ⟨g,3,none⟩ u).setCell ⟨g,4,none⟩ v) g #[x,y,z,u,v] t :=
 (((((h.ab 0 x).ab 1 y).ab 2 z).ab 3 u).ab 4 v).of_eq rfl
theorem uG (w:World):w.drew.heap.size=w.heap.size:=rfl
theorem ct.ne {w v:World} {g:Nat} {K:Int} (h:ct w g K v):v.heap.size≠g:=by have:=h.lt;have:=h.only.size;omega
theorem ct.rows {w v:World} {g:Nat} {K:Int} (h:ct w g K v) {a b c:Nat} {x y z:Array Value} (ha:a≠g) (hb:b≠g) (hc:c≠g) (xa:Hid (w.row? a 0 18=some x)) (xb:Hid (w.row? b 0 18=some y)) (xc:Hid (w.row? c 0 18=some z)) :
  v.row? a 0 18=some x∧v.row? b 0 18=some y∧v.row? c 0 18=some z :=
 ⟨(h.only.row? a 0 18 (aL xa.out) ha).trans xa.out,(h.only.row? b 0 18 (aL xb.out) hb).trans xb.out,(h.only.row? c 0 18 (aL xc.out) hc).trans xc.out⟩
theorem qA (x y:WI) (n e K:Int) (g:Nat) {w0 w:World} (H:Hid (bR x y=(n,e))) (h:ct w0 g K w) :
  Calls Tryz.prog 54 #[.func (.func 55) #[] #[],.agg x.cells,.agg y.cells,.pointer (some ⟨g,0,none⟩)] w
   fun r w'=>r = .returned (.int .i64 n)∧ct w0 g (max K e) w'∧ah g w w':=by
 refine Calls.mono (kU 55 x y n e K g w D3 (DK x y n e H.out) (h.blk.cell rfl) (h.blk.frozen 0)) ?_;rintro r w' ⟨rfl,w1,hb,rfl⟩;have ho:ah g w (w1.setCell ⟨g,0,none⟩ (.int .i64 (max K e))):=(ah.of_below hb).setCell 0 _;exact⟨rfl,⟨h.lt,h.only.trans ho,((h.blk.keep hb).ab 0 _).of_eq rfl⟩,ho⟩
theorem yJ (a0 a1 a2 a3 a4 a5 a6:WI) (d x y lv sq p q r:WI) (HD:Hid ((a0.mul a2).sub (a1.mul a1)=d)) (HX:Hid ((a2.mul a3).sub (a1.mul a4)=x)) (HY:Hid ((a0.mul a4).sub (a1.mul a3)=y)) (HL:Hid (i9 a0 a1 a2 a3 a4 a5 a6 d=lv)) (HS:Hid (d.mul d=sq)) (HP:Hid (lv.mul a2=p)) (HQ:Hid (lv.mul a0=q)) (HRR:Hid ((lv.mul a1).neg=r))
  (HV:Hid (ew [a0,a1,a2,a3,a4,a5,a6]=false)) (HW:Hid (ew [d,x,y,lv,sq,p,q,r]=false)) (F:El × Int) (HT1:Hid (a0.sign≤0∨d.sign≤0→F=(El.zero,1))) (HT2:Hid (0<a0.sign→0<d.sign→lv.sign<0→F=(El.zero,3))) (cx cy ea eb ed k1 k2 k3 k4 k5:Int) (N1:Hid (bR x d=(cx,k1))) (N2:Hid (bR y d=(cy,k2))) (N3:Hid (bP p sq=(ea,k3))) (N4:Hid (bP q sq=(ed,k4))) (N5:Hid (floorV r sq=(eb,k5))) (HT3:Hid (0<a0.sign→0<d.sign→0≤lv.sign→F=cm cx cy ea eb ed (max (max (max (max (max 0 k1) k2) k3) k4) k5))) (w:World) :
  Calls Tryz.prog 15 #[.agg (blk [a0,a1,a2,a3,a4,a5,a6])] w fun e w'=>e = .returned (.tuple #[elV F.1,.int .i64 F.2])∧Below w.heap.size w w':=by
 go_enter Tryz.func15,Tryz.ntmps15;go_wp2_with fail;obtain⟨wc,hw3⟩:∃ w3,w3=(w.alloc (Obj.cells (blk [a0,a1,a2,a3,a4,a5,a6]) 49)).alloc (Obj.cells #[.int .i64 0,.int .i64 0,.int .i64 0,.int .i64 0,.int .i64 0] 27):=⟨_,rfl⟩;rw[← hw3];have HI:Hid (Blk wc w.heap.size (blk [a0,a1,a2,a3,a4,a5,a6]) 49):=by rw[hw3];exact(Blk.new _ _ _).alloc _
 have HR:Hid (Blk wc (w.heap.size+1) #[.int .i64 0,.int .i64 0,.int .i64 0,.int .i64 0,.int .i64 0] 27):=by rw[hw3];exact Blk.new' _ _ _ (by simp)
 have hbw:Below w.heap.size w wc:=by rw[hw3];exact ad
 clear hw3;go_cut [4] from 5 (fun s4 we=>∃ g4,s4 = .pointer (some ⟨g4,0,none⟩)∧w.heap.size≤g4∧Hid (we.row? g4 0 18=some ((a0.mul a2).sub (a1.mul a1)).cells)∧Hid (Below wc.heap.size wc we))
 case first =>
  have i0:=@aA _ _ _ _ _ ((HI.out.row? 0 18 (by simp)).trans (congrArg some (gK _ _)));have i1:=@aA _ _ _ _ _ ((HI.out.row? 18 18 (by simp)).trans (congrArg some (gJ _ _ _)));have i2:=@aA _ _ _ _ _ ((HI.out.row? 36 18 (by simp)).trans (congrArg some (iK _ _ _ _)));refine aB 12 (fun k=>match k with|11=>some ⟨.cells (cellsI false false 0) 47,fun g => .pointer (some ⟨g,0,none⟩)⟩|_=>none) (fun _=>[]) (by kernel_rfl) (by kernel_rfl) ?_;apply Eb;apply Eb;apply Eb;apply Eb;apply Eb;apply Eb;apply Eb;apply Eb;apply Eb;apply Eb;apply Eb;apply Ef;refine⟨[],fun gg NN hN=>?_⟩;simp only[List.take_succ_cons,List.take_zero,List.drop_succ_cons,List.drop_zero];(repeat (first|(refine bi rfl ?_;go_big_quiet_step (first|exact rfl|(first|(go_at_call 42;exact aF (cN _ _ _))|(go_at_call 48;exact aF (jY _ _ _))));refine wpQuiet_nil ⟨rfl,?_⟩)|(refine bK _ (by rfl) (by rfl) ?hex ?_;(case hex=>(intro wx;first|(go_simp;done)|(go_simp;rfl)));simp only[Act.put,List.setIfInBounds_toArray,List.set_cons_succ,List.set_cons_zero])));refine bF ?_;intro wn hbn' hh hd;have hbn:Below wc.heap.size wc wn:=hbn';obtain⟨l4,e4⟩:=hh 11 _ (by decide) rfl;have G4:Hid (Blk wn (gg 11) (cellsI false false 0) 47):=e4;have hp4:(wn).put? (gg 11) 0 ((a0.mul a2).sub (a1.mul a1)).cells=some ((wn).putRow (gg 11) 0 ((a0.mul a2).sub (a1.mul a1)).cells):=(G4.out).put? 0 _ (by simp) (by simp);clear hh hd hbn' e4 i0 i1 i2;go_wp2_with fail;go_meet;refine⟨gg 11,rfl,Nat.le_trans hbw.size l4,?_,(ar hbn l4 _ _)⟩
  ·show _=_;rw[(((G4.out).aK 0 ((a0.mul a2).sub (a1.mul a1)).cells)).row? 0 18 (by simp)];simp
 case rest =>
  obtain⟨g4,rfl,l4,r4,HBN⟩:=hcut;have hbn:=HBN.out;have hbw2:=Below.trans hbw (hbn.mono hbw.size);clear hbw;have hbw:=hbw2;clear hbw2;have HI2:=Lh (HI.out.keep hbn);clear HI;have HI:=HI2;clear HI2;have HR2:=Lh (HR.out.keep hbn);clear HR;have HR:=HR2;clear HR2;clear hbn HBN;rw[HD.out] at r4;go_wp2_with fail;go_cut [5] from 6 (fun s5 we=>∃ g5,s5 = .pointer (some ⟨g5,0,none⟩)∧w.heap.size≤g5∧Hid (we.row? g5 0 18=some ((a2.mul a3).sub (a1.mul a4)).cells)∧Hid (Below wc.heap.size wc we))
  case first =>
   have i1:=@aA _ _ _ _ _ ((HI.out.row? 18 18 (by simp)).trans (congrArg some (gJ _ _ _)));have i2:=@aA _ _ _ _ _ ((HI.out.row? 36 18 (by simp)).trans (congrArg some (iK _ _ _ _)));have i3:=@aA _ _ _ _ _ ((HI.out.row? 54 18 (by simp)).trans (congrArg some (jQ _ _ _ _ _)));have i4:=@aA _ _ _ _ _ ((HI.out.row? 72 18 (by simp)).trans (congrArg some (jP _ _ _ _ _ _)));refine aB 12 (fun k=>match k with|11=>some ⟨.cells (cellsI false false 0) 47,fun g => .pointer (some ⟨g,0,none⟩)⟩|_=>none) (fun _=>[]) (by kernel_rfl) (by kernel_rfl) ?_;apply Eb;apply Eb;apply Eb;apply Eb;apply Eb;apply Eb;apply Eb;apply Eb;apply Eb;apply Eb;apply Eb;apply Ef;refine⟨[],fun gg NN hN=>?_⟩;simp only[List.take_succ_cons,List.take_zero,List.drop_succ_cons,List.drop_zero];(repeat (first|(refine bi rfl ?_;go_big_quiet_step (first|exact rfl|(first|(go_at_call 42;exact aF (cN _ _ _))|(go_at_call 48;exact aF (jY _ _ _))));refine wpQuiet_nil ⟨rfl,?_⟩)|(refine bK _ (by rfl) (by rfl) ?hex ?_;(case hex=>(intro wx;first|(go_simp;done)|(go_simp;rfl)));simp only[Act.put,List.setIfInBounds_toArray,List.set_cons_succ,List.set_cons_zero])));refine bF ?_;intro wn hbn' hh hd;have hbn:Below wc.heap.size wc wn:=hbn';obtain⟨l5,e5⟩:=hh 11 _ (by decide) rfl;have G5:Hid (Blk wn (gg 11) (cellsI false false 0) 47):=e5;have hp5:(wn).put? (gg 11) 0 ((a2.mul a3).sub (a1.mul a4)).cells=some ((wn).putRow (gg 11) 0 ((a2.mul a3).sub (a1.mul a4)).cells):=(G5.out).put? 0 _ (by simp) (by simp);clear hh hd hbn' e5 i1 i2 i3 i4;go_wp2_with fail;go_meet;refine⟨gg 11,rfl,Nat.le_trans hbw.size l5,?_,(ar hbn l5 _ _)⟩
   ·show _=_;rw[(((G5.out).aK 0 ((a2.mul a3).sub (a1.mul a4)).cells)).row? 0 18 (by simp)];simp
  case rest =>
   obtain⟨g5,rfl,l5,r5,HBN⟩:=hcut;have hbn:=HBN.out;have hbw2:=Below.trans hbw (hbn.mono hbw.size);clear hbw;have hbw:=hbw2;clear hbw2;have HI2:=Lh (HI.out.keep hbn);clear HI;have HI:=HI2;clear HI2;have r4:=Lh ((Below.row? hbn g4 0 18 (aL r4.out)).trans r4.out);have HR2:=Lh (HR.out.keep hbn);clear HR;have HR:=HR2;clear HR2;clear hbn HBN;rw[HX.out] at r5;go_wp2_with fail;go_cut [6] from 7 (fun s6 we=>∃ g6,s6 = .pointer (some ⟨g6,0,none⟩)∧w.heap.size≤g6∧Hid (we.row? g6 0 18=some ((a0.mul a4).sub (a1.mul a3)).cells)∧Hid (Below wc.heap.size wc we))
   case first =>
    have i0:=@aA _ _ _ _ _ ((HI.out.row? 0 18 (by simp)).trans (congrArg some (gK _ _)));have i1:=@aA _ _ _ _ _ ((HI.out.row? 18 18 (by simp)).trans (congrArg some (gJ _ _ _)));have i3:=@aA _ _ _ _ _ ((HI.out.row? 54 18 (by simp)).trans (congrArg some (jQ _ _ _ _ _)));have i4:=@aA _ _ _ _ _ ((HI.out.row? 72 18 (by simp)).trans (congrArg some (jP _ _ _ _ _ _)));refine aB 12 (fun k=>match k with|11=>some ⟨.cells (cellsI false false 0) 47,fun g => .pointer (some ⟨g,0,none⟩)⟩|_=>none) (fun _=>[]) (by kernel_rfl) (by kernel_rfl) ?_;apply Eb;apply Eb;apply Eb;apply Eb;apply Eb;apply Eb;apply Eb;apply Eb;apply Eb;apply Eb;apply Eb;apply Ef;refine⟨[],fun gg NN hN=>?_⟩;simp only[List.take_succ_cons,List.take_zero,List.drop_succ_cons,List.drop_zero];(repeat (first|(refine bi rfl ?_;go_big_quiet_step (first|exact rfl|(first|(go_at_call 42;exact aF (cN _ _ _))|(go_at_call 48;exact aF (jY _ _ _))));refine wpQuiet_nil ⟨rfl,?_⟩)|(refine bK _ (by rfl) (by rfl) ?hex ?_;(case hex=>(intro wx;first|(go_simp;done)|(go_simp;rfl)));simp only[Act.put,List.setIfInBounds_toArray,List.set_cons_succ,List.set_cons_zero])));refine bF ?_;intro wn hbn' hh hd;have hbn:Below wc.heap.size wc wn:=hbn';obtain⟨l6,e6⟩:=hh 11 _ (by decide) rfl;have G6:Hid (Blk wn (gg 11) (cellsI false false 0) 47):=e6;have hp6:(wn).put? (gg 11) 0 ((a0.mul a4).sub (a1.mul a3)).cells=some ((wn).putRow (gg 11) 0 ((a0.mul a4).sub (a1.mul a3)).cells):=(G6.out).put? 0 _ (by simp) (by simp);clear hh hd hbn' e6 i0 i1 i3 i4;go_wp2_with fail;go_meet;refine⟨gg 11,rfl,Nat.le_trans hbw.size l6,?_,(ar hbn l6 _ _)⟩
    ·show _=_;rw[(((G6.out).aK 0 ((a0.mul a4).sub (a1.mul a3)).cells)).row? 0 18 (by simp)];simp
   case rest =>
    obtain⟨g6,rfl,l6,r6,HBN⟩:=hcut;have hbn:=HBN.out;have hbw2:=Below.trans hbw (hbn.mono hbw.size);clear hbw;have hbw:=hbw2;clear hbw2;have HI2:=Lh (HI.out.keep hbn);clear HI;have HI:=HI2;clear HI2;have r4:=Lh ((Below.row? hbn g4 0 18 (aL r4.out)).trans r4.out);have r5:=Lh ((Below.row? hbn g5 0 18 (aL r5.out)).trans r5.out);have HR2:=Lh (HR.out.keep hbn);clear HR;have HR:=HR2;clear HR2;clear hbn HBN;rw[HY.out] at r6;go_wp2_with fail;go_cut [7,8] from 9 (fun s7 s8 we=>∃ g7 g8,s7 = .pointer (some ⟨g7,0,none⟩)∧s8 = .pointer (some ⟨g8,0,none⟩)∧w.heap.size≤g7∧w.heap.size≤g8∧Hid (we.row? g7 0 18=some (i9 a0 a1 a2 a3 a4 a5 a6 d).cells)∧Hid (we.row? g8 0 18=some (d.mul d).cells)∧Hid (Below wc.heap.size wc we))
    case first =>
     have iw:=@aA _ _ _ _ _ (HI.out.row?_all 126 (by simp));have k4:=@aA _ _ _ _ _ r4.out;refine aB 8 (fun k=>match k with|6=>some ⟨.cells (cellsI false false 0) 47,fun g => .pointer (some ⟨g,0,none⟩)⟩|7=>some ⟨.cells (cellsI false false 0) 47,fun g => .pointer (some ⟨g,0,none⟩)⟩|_=>none) (fun _=>[]) (by kernel_rfl) (by kernel_rfl) ?_;apply Eb;apply Eb;apply Eb;apply Eb;apply Eb;apply Eb;apply Ef;apply Ef;refine⟨[],fun gg NN hN=>?_⟩;simp only[List.take_succ_cons,List.take_zero,List.drop_succ_cons,List.drop_zero];(repeat (first|(refine bi rfl ?_;go_big_quiet_step (first|exact rfl|(first|(go_at_call 42;exact aF (cN _ _ _))|(go_at_call 49;exact aF (Bk _ _ _ _ _ _ _ _ _))));refine wpQuiet_nil ⟨rfl,?_⟩)|(refine bK _ (by rfl) (by rfl) ?hex ?_;(case hex=>(intro wx;first|(go_simp;done)|(go_simp;rfl)));simp only[Act.put,List.setIfInBounds_toArray,List.set_cons_succ,List.set_cons_zero])));refine bF ?_;intro wn hbn' hh hd;have hbn:Below wc.heap.size wc wn:=hbn';obtain⟨l7,e7⟩:=hh 6 _ (by decide) rfl;obtain⟨l8,e8⟩:=hh 7 _ (by decide) rfl;have n7_8:gg 6≠gg 7:=hd 6 7 (by decide) (by decide) rfl rfl (by decide);have G7:Hid (Blk wn (gg 6) (cellsI false false 0) 47):=e7;have G8:Hid (Blk wn (gg 7) (cellsI false false 0) 47):=e8;have hp7:(wn).put? (gg 6) 0 (i9 a0 a1 a2 a3 a4 a5 a6 d).cells=some ((wn).putRow (gg 6) 0 (i9 a0 a1 a2 a3 a4 a5 a6 d).cells):=(G7.out).put? 0 _ (by simp) (by simp);have hp8:((wn).putRow (gg 6) 0 (i9 a0 a1 a2 a3 a4 a5 a6 d).cells).put? (gg 7) 0 (d.mul d).cells=some (((wn).putRow (gg 6) 0 (i9 a0 a1 a2 a3 a4 a5 a6 d).cells).putRow (gg 7) 0 (d.mul d).cells):=(((G8.out).aC (Ne.symm n7_8) 0 (i9 a0 a1 a2 a3 a4 a5 a6 d).cells)).put? 0 _ (by simp) (by simp);clear hh hd hbn' e7 e8 k4;go_wp2_with fail;go_meet;refine⟨gg 6,gg 7,rfl,rfl,Nat.le_trans hbw.size l7,Nat.le_trans hbw.size l8,?_,?_,(ar (ar hbn l7 _ _) l8 _ _)⟩
     ·show _=_;rw[(((((G7.out).aK 0 (i9 a0 a1 a2 a3 a4 a5 a6 d).cells)).aC n7_8 0 (d.mul d).cells)).row? 0 18 (by simp)];simp
     ·show _=_;rw[(((((G8.out).aC (Ne.symm n7_8) 0 (i9 a0 a1 a2 a3 a4 a5 a6 d).cells)).aK 0 (d.mul d).cells)).row? 0 18 (by simp)];simp
    case rest =>
     obtain⟨g7,g8,rfl,rfl,l7,l8,r7,r8,HBN⟩:=hcut;have hbn:=HBN.out;have hbw2:=Below.trans hbw (hbn.mono hbw.size);clear hbw;have hbw:=hbw2;clear hbw2;have HI2:=Lh (HI.out.keep hbn);clear HI;have HI:=HI2;clear HI2;have r4:=Lh ((Below.row? hbn g4 0 18 (aL r4.out)).trans r4.out);have r5:=Lh ((Below.row? hbn g5 0 18 (aL r5.out)).trans r5.out);have r6:=Lh ((Below.row? hbn g6 0 18 (aL r6.out)).trans r6.out);have HR2:=Lh (HR.out.keep hbn);clear HR;have HR:=HR2;clear HR2;clear hbn HBN;rw[HL.out] at r7;rw[HS.out] at r8;go_wp2_with fail;go_cut [9,10,11] from 12 (fun s9 s10 s11 we=>∃ g9 g10 g11,s9 = .pointer (some ⟨g9,0,none⟩)∧s10 = .pointer (some ⟨g10,0,none⟩)∧s11 = .pointer (some ⟨g11,0,none⟩)∧w.heap.size≤g9∧w.heap.size≤g10∧w.heap.size≤g11∧Hid (we.row? g9 0 18=some (lv.mul a2).cells)∧Hid (we.row? g10 0 18=some (lv.mul a0).cells)∧Hid (we.row? g11 0 18=some ((lv.mul a1).neg).cells)∧Hid (Below wc.heap.size wc we))
     case first =>
      have i0:=@aA _ _ _ _ _ ((HI.out.row? 0 18 (by simp)).trans (congrArg some (gK _ _)));have i1:=@aA _ _ _ _ _ ((HI.out.row? 18 18 (by simp)).trans (congrArg some (gJ _ _ _)));have i2:=@aA _ _ _ _ _ ((HI.out.row? 36 18 (by simp)).trans (congrArg some (iK _ _ _ _)));have k7:=@aA _ _ _ _ _ r7.out;refine aB 16 (fun k=>match k with|13=>some ⟨.cells (cellsI false false 0) 47,fun g => .pointer (some ⟨g,0,none⟩)⟩|14=>some ⟨.cells (cellsI false false 0) 47,fun g => .pointer (some ⟨g,0,none⟩)⟩|15=>some ⟨.cells (cellsI false false 0) 47,fun g => .pointer (some ⟨g,0,none⟩)⟩|_=>none) (fun _=>[]) (by kernel_rfl) (by kernel_rfl) ?_;apply Eb;apply Eb;apply Eb;apply Eb;apply Eb;apply Eb;apply Eb;apply Eb;apply Eb;apply Eb;apply Eb;apply Eb;apply Eb;apply Ef;apply Ef;apply Ef;refine⟨[],fun gg NN hN=>?_⟩;simp only[List.take_succ_cons,List.take_zero,List.drop_succ_cons,List.drop_zero];(repeat (first|(refine bi rfl ?_;go_big_quiet_step (first|exact rfl|(first|(go_at_call 42;exact aF (cN _ _ _))|(go_at_call 50;exact aF (qH _ _))));refine wpQuiet_nil ⟨rfl,?_⟩)|(refine bK _ (by rfl) (by rfl) ?hex ?_;(case hex=>(intro wx;first|(go_simp;done)|(go_simp;rfl)));simp only[Act.put,List.setIfInBounds_toArray,List.set_cons_succ,List.set_cons_zero])));refine bF ?_;intro wn hbn' hh hd;have hbn:Below wc.heap.size wc wn:=hbn';obtain⟨l9,e9⟩:=hh 13 _ (by decide) rfl;obtain⟨l10,e10⟩:=hh 14 _ (by decide) rfl;obtain⟨l11,e11⟩:=hh 15 _ (by decide) rfl;have n9_10:gg 13≠gg 14:=hd 13 14 (by decide) (by decide) rfl rfl (by decide);have n9_11:gg 13≠gg 15:=hd 13 15 (by decide) (by decide) rfl rfl (by decide);have n10_11:gg 14≠gg 15:=hd 14 15 (by decide) (by decide) rfl rfl (by decide);have G9:Hid (Blk wn (gg 13) (cellsI false false 0) 47):=e9;have G10:Hid (Blk wn (gg 14) (cellsI false false 0) 47):=e10;have G11:Hid (Blk wn (gg 15) (cellsI false false 0) 47):=e11;have hp9:(wn).put? (gg 13) 0 (lv.mul a2).cells=some ((wn).putRow (gg 13) 0 (lv.mul a2).cells):=(G9.out).put? 0 _ (by simp) (by simp);have hp10:((wn).putRow (gg 13) 0 (lv.mul a2).cells).put? (gg 14) 0 (lv.mul a0).cells=some (((wn).putRow (gg 13) 0 (lv.mul a2).cells).putRow (gg 14) 0 (lv.mul a0).cells):=(((G10.out).aC (Ne.symm n9_10) 0 (lv.mul a2).cells)).put? 0 _ (by simp) (by simp);have hp11:(((wn).putRow (gg 13) 0 (lv.mul a2).cells).putRow (gg 14) 0 (lv.mul a0).cells).put? (gg 15) 0 ((lv.mul a1).neg).cells=some ((((wn).putRow (gg 13) 0 (lv.mul a2).cells).putRow (gg 14) 0 (lv.mul a0).cells).putRow (gg 15) 0 ((lv.mul a1).neg).cells):=(((((G11.out).aC (Ne.symm n9_11) 0 (lv.mul a2).cells)).aC (Ne.symm n10_11) 0 (lv.mul a0).cells)).put? 0 _ (by simp) (by simp);clear hh hd hbn' e9 e10 e11 i0 i1 i2 k7;go_wp2_with fail;go_meet;refine⟨gg 13,gg 14,gg 15,rfl,rfl,rfl,Nat.le_trans hbw.size l9,Nat.le_trans hbw.size l10,Nat.le_trans hbw.size l11,?_,?_,?_,(ar (ar (ar hbn l9 _ _) l10 _ _) l11 _ _)⟩
      ·show _=_;rw[(((((((G9.out).aK 0 (lv.mul a2).cells)).aC n9_10 0 (lv.mul a0).cells)).aC n9_11 0 ((lv.mul a1).neg).cells)).row? 0 18 (by simp)];simp
      ·show _=_;rw[(((((((G10.out).aC (Ne.symm n9_10) 0 (lv.mul a2).cells)).aK 0 (lv.mul a0).cells)).aC n10_11 0 ((lv.mul a1).neg).cells)).row? 0 18 (by simp)];simp
      ·show _=_;rw[(((((((G11.out).aC (Ne.symm n9_11) 0 (lv.mul a2).cells)).aC (Ne.symm n10_11) 0 (lv.mul a0).cells)).aK 0 ((lv.mul a1).neg).cells)).row? 0 18 (by simp)];simp
     case rest =>
      obtain⟨g9,g10,g11,rfl,rfl,rfl,l9,l10,l11,r9,r10,r11,HBN⟩:=hcut;have hbn:=HBN.out;have hbw2:=Below.trans hbw (hbn.mono hbw.size);clear hbw;have hbw:=hbw2;clear hbw2;have HI2:=Lh (HI.out.keep hbn);clear HI;have HI:=HI2;clear HI2;have r4:=Lh ((Below.row? hbn g4 0 18 (aL r4.out)).trans r4.out);have r5:=Lh ((Below.row? hbn g5 0 18 (aL r5.out)).trans r5.out);have r6:=Lh ((Below.row? hbn g6 0 18 (aL r6.out)).trans r6.out);have r7:=Lh ((Below.row? hbn g7 0 18 (aL r7.out)).trans r7.out);have r8:=Lh ((Below.row? hbn g8 0 18 (aL r8.out)).trans r8.out);have HR2:=Lh (HR.out.keep hbn);clear HR;have HR:=HR2;clear HR2;clear hbn HBN;rw[HP.out] at r9;rw[HQ.out] at r10;rw[HRR.out] at r11;have y0:=HI.out.lt;have y1:=HR.out.lt;have y4:=aL r4.out;have y5:=aL r5.out;have y6:=aL r6.out;have y7:=aL r7.out;have y8:=aL r8.out;have y9:=aL r9.out;have y10:=aL r10.out;have y11:=aL r11.out;have s4:=r4.out;have s5:=r5.out;have s6:=r6.out;have s7:=r7.out;have s8:=r8.out;have s9:=r9.out;have s10:=r10.out;have s11:=r11.out;have iw:=HI.out.row?_all 126 (by simp);have i0:=(HI.out.row? 0 18 (by simp)).trans (congrArg some (gK _ _));have FR:wc.fits (w.heap.size+1) 5=true:=by have h:=HR.out;unfold Blk at h;unfold World.fits;rw[h];rfl
      have FC:=fun i=>HR.out.at i;have FZ:=fun i=>HR.out.frozen i;go_wp2_with fail;refine(FX _ _ _ _ _ _ _ HV.out _).mono ?_;rintro e w1 ⟨rfl,hb1⟩;have z_w1:=hb1.size;(try simp at z_w1);have K_w1_0:=bq2 hb1 (w.heap.size);have K_w1_g4:=bq hb1 (g4);have K_w1_g5:=bq hb1 (g5);have K_w1_g6:=bq hb1 (g6);have K_w1_g7:=bq hb1 (g7);have K_w1_g8:=bq hb1 (g8);have K_w1_g9:=bq hb1 (g9);have K_w1_g10:=bq hb1 (g10);have K_w1_g11:=bq hb1 (g11);go_wp2_with fail;refine(xQ [d,x,y,lv,sq,p,q,r] _ _ (by simp) HW.out (Blk.new' _ _ _ (by simp))).mono ?_;rintro e w2 ⟨rfl,hb2⟩;have z_w2:=hb2.size;(try simp at z_w2);have K_w2_0:=bq2 hb2 (w.heap.size);have K_w2_g4:=bq hb2 (g4);have K_w2_g5:=bq hb2 (g5);have K_w2_g6:=bq hb2 (g6);have K_w2_g7:=bq hb2 (g7);have K_w2_g8:=bq hb2 (g8);have K_w2_g9:=bq hb2 (g9);have K_w2_g10:=bq hb2 (g10);have K_w2_g11:=bq hb2 (g11);go_wp2_with fail;refine(dX _ _).mono ?_;rintro e w3 ⟨rfl,hb3⟩;have z_w3:=hb3.size;(try simp at z_w3);have K_w3_0:=bq2 hb3 (w.heap.size);have K_w3_g4:=bq hb3 (g4);have K_w3_g5:=bq hb3 (g5);have K_w3_g6:=bq hb3 (g6);have K_w3_g7:=bq hb3 (g7);have K_w3_g8:=bq hb3 (g8);have K_w3_g9:=bq hb3 (g9);have K_w3_g10:=bq hb3 (g10);have K_w3_g11:=bq hb3 (g11);have hbc:Below wc.heap.size wc w3:=ad;have hbe:Below w.heap.size w w3:=Below.trans hbw (hbc.mono hbw.size);clear hb1 hb2 hb3;by_cases h1:a0.sign≤0
      ·have E:=Lh (HT1.out (.inl h1));go_wp2_with fail;exact rT 5 z5 (.int .i64 1) ⟨by rw[E.out];rfl,ad⟩
      ·have h1':0<a0.sign:=by omega
       go_wp2_with fail;refine(dX _ _).mono ?_;rintro e w4 ⟨rfl,hb4⟩;have z_w4:=hb4.size;(try simp at z_w4);have K_w4_0:=bq2 hb4 (w.heap.size);have K_w4_g4:=bq hb4 (g4);have K_w4_g5:=bq hb4 (g5);have K_w4_g6:=bq hb4 (g6);have K_w4_g7:=bq hb4 (g7);have K_w4_g8:=bq hb4 (g8);have K_w4_g9:=bq hb4 (g9);have K_w4_g10:=bq hb4 (g10);have K_w4_g11:=bq hb4 (g11);by_cases h2:d.sign≤0
       ·have E:=Lh (HT1.out (.inr h2));go_wp2_with fail;exact rT 5 z5 (.int .i64 1) ⟨by rw[E.out];rfl,ad⟩
       ·have h2':0<d.sign:=by omega
        go_wp2_with fail;refine(dX _ _).mono ?_;rintro e w5 ⟨rfl,hb5⟩;have z_w5:=hb5.size;(try simp at z_w5);have K_w5_0:=bq2 hb5 (w.heap.size);have K_w5_g4:=bq hb5 (g4);have K_w5_g5:=bq hb5 (g5);have K_w5_g6:=bq hb5 (g6);have K_w5_g7:=bq hb5 (g7);have K_w5_g8:=bq hb5 (g8);have K_w5_g9:=bq hb5 (g9);have K_w5_g10:=bq hb5 (g10);have K_w5_g11:=bq hb5 (g11);by_cases h3:lv.sign<0
        ·have E:=Lh (HT2.out h1' h2' h3);go_wp2_with fail;exact rT 5 z5 (.int .i64 3) ⟨by rw[E.out];rfl,ad⟩
        ·have E:=Lh (HT3.out h1' h2' (by omega));have h3':0≤lv.sign:=by omega
         go_wp2_with fail;obtain⟨g12,hg12⟩:∃ g,g=w5.heap.size:=⟨_,rfl⟩;obtain⟨w6,hw6⟩:∃ w6,w6=w5.alloc (Obj.cells #[.int .i64 0] 30):=⟨_,rfl⟩;rw[← hw6,← hg12];have hb6:Below w5.heap.size w5 w6:=by rw[hw6];exact ad
         have z_w6:=hb6.size;(try simp at z_w6);have K_w6_0:=bq2 hb6 (w.heap.size);have K_w6_g4:=bq hb6 (g4);have K_w6_g5:=bq hb6 (g5);have K_w6_g6:=bq hb6 (g6);have K_w6_g7:=bq hb6 (g7);have K_w6_g8:=bq hb6 (g8);have K_w6_g9:=bq hb6 (g9);have K_w6_g10:=bq hb6 (g10);have K_w6_g11:=bq hb6 (g11);have H12:Hid (Blk w6 g12 #[.int .i64 0] 30):=by rw[hw6,hg12];exact Blk.new _ _ _
         have hbd3:Below w3.heap.size w3 w6:=ad;have hbd:Below wc.heap.size wc w6:=Below.trans hbc (hbd3.mono hbc.size);have hbf:Below w.heap.size w w6:=Below.trans hbw (hbd.mono hbw.size);have z12:w.heap.size≤g12:=by have:=hbe.size;have:=hb4.size;have:=hb5.size;omega
         clear hb4 hb5 hb6;have HR6:=Lh (HR.out.keep hbd);have t4:Hid (w6.row? g4 0 18=some d.cells):=(Below.row? hbd g4 0 18 (aL s4)).trans s4;have t5:Hid (w6.row? g5 0 18=some x.cells):=(Below.row? hbd g5 0 18 (aL s5)).trans s5;have t6:Hid (w6.row? g6 0 18=some y.cells):=(Below.row? hbd g6 0 18 (aL s6)).trans s6;have t7:Hid (w6.row? g7 0 18=some lv.cells):=(Below.row? hbd g7 0 18 (aL s7)).trans s7;have t8:Hid (w6.row? g8 0 18=some sq.cells):=(Below.row? hbd g8 0 18 (aL s8)).trans s8;have t9:Hid (w6.row? g9 0 18=some p.cells):=(Below.row? hbd g9 0 18 (aL s9)).trans s9;have t10:Hid (w6.row? g10 0 18=some q.cells):=(Below.row? hbd g10 0 18 (aL s10)).trans s10;have t11:Hid (w6.row? g11 0 18=some r.cells):=(Below.row? hbd g11 0 18 (aL s11)).trans s11;have nn6:Hid (¬ g6=g12):=by have h:=y6;have h2:=hbc.size;have h3:=z_w4;have h4:=z_w5;show ¬ _;omega
         have nn5:Hid (¬ g5=g12):=by have h:=y5;have h2:=hbc.size;have h3:=z_w4;have h4:=z_w5;show ¬ _;omega
         have nn4:Hid (¬ g4=g12):=by have h:=y4;have h2:=hbc.size;have h3:=z_w4;have h4:=z_w5;show ¬ _;omega
         have nn8:Hid (¬ g8=g12):=by have h:=y8;have h2:=hbc.size;have h3:=z_w4;have h4:=z_w5;show ¬ _;omega
         have nn9:Hid (¬ g9=g12):=by have h:=y9;have h2:=hbc.size;have h3:=z_w4;have h4:=z_w5;show ¬ _;omega
         have nn10:Hid (¬ g10=g12):=by have h:=y10;have h2:=hbc.size;have h3:=z_w4;have h4:=z_w5;show ¬ _;omega
         have nn11:Hid (¬ g11=g12):=by have h:=y11;have h2:=hbc.size;have h3:=z_w4;have h4:=z_w5;show ¬ _;omega
         have nnR:Hid (¬ w.heap.size+1=g12):=by have h2:=hbc.size;have h3:=z_w4;have h4:=z_w5;show ¬ _;omega
         clear z_w6 K_w6_0 K_w6_g4 K_w6_g5 K_w6_g6 K_w6_g7 K_w6_g8 K_w6_g9 K_w6_g10 K_w6_g11;clear z_w5 K_w5_0 K_w5_g4 K_w5_g5 K_w5_g6 K_w5_g7 K_w5_g8 K_w5_g9 K_w5_g10 K_w5_g11;clear z_w4 K_w4_0 K_w4_g4 K_w4_g5 K_w4_g6 K_w4_g7 K_w4_g8 K_w4_g9 K_w4_g10 K_w4_g11;clear z_w3 K_w3_0 K_w3_g4 K_w3_g5 K_w3_g6 K_w3_g7 K_w3_g8 K_w3_g9 K_w3_g10 K_w3_g11;clear z_w2 K_w2_0 K_w2_g4 K_w2_g5 K_w2_g6 K_w2_g7 K_w2_g8 K_w2_g9 K_w2_g10 K_w2_g11;clear z_w1 K_w1_0 K_w1_g4 K_w1_g5 K_w1_g6 K_w1_g7 K_w1_g8 K_w1_g9 K_w1_g10 K_w1_g11;clear hg12 hw6 FR FC FZ iw i0 y0 y1 y4 y5 y6 y7 y8 y9 y10 y11 s4 s5 s6 s7 s8 s9 s10 s11 r4 r5 r6 r7 r8 r9 r10 r11 HR hbe hbc hbd hbd3 hbw HI HD HX HY HL HS HP HQ HRR HV HW HT1 HT2 HT3;go_cut [14] from 15 (fun s14 wd=>∃ g14,s14 = .pointer (some ⟨g14,0,none⟩)∧w6.heap.size≤g14∧Hid (Blk wd g14 #[.int .i64 cx,.int .i64 cy,.int .i64 0,.int .i64 0,.int .i64 0] 27)∧Hid (ct w6 g12 (max (max 0 k1) k2) wd))
         case first =>
          have PI:ct w6 g12 0 w6:=⟨H12.out.lt,ah.refl,H12.out⟩;clear t7 t8 t9 t10 t11 HR6 nn8 nn9 nn10 nn11 nnR;go_region_held3 (fun w'=>w'.row? g4 0 18=some d.cells∧w'.row? g5 0 18=some x.cells∧w'.row? g6 0 18=some y.cells) ((with_reducible refine' ct.rows ?hp nn4.out nn5.out nn6.out t4 t5 t6;(case hp=>(repeat (first|with_reducible assumption|with_reducible apply ct.drew|with_reducible apply ct.alloc|with_reducible apply ct.fc))))) (first|(go_at_call 54;with_reducible refine' Calls.mono (qA (w0:=w6) x d cx k1 _ g12 N1 ?hp) ?_;(case hp=>(repeat (first|with_reducible assumption|with_reducible apply ct.drew|with_reducible apply ct.alloc|with_reducible apply ct.fc)));rintro e v7 ⟨rfl,PI,ho⟩;(try (have X14:Blk v7 _ #[.int .i64 0,.int .i64 0,.int .i64 0,.int .i64 0,.int .i64 0] 27:=ah.blk ho (by first|with_reducible exact X14|with_reducible exact Blk.new _ _ _|(with_reducible refine Blk.drew ?_;with_reducible exact Blk.new _ _ _)) (ct.ne (by repeat (first|with_reducible assumption|with_reducible apply ct.drew|with_reducible apply ct.alloc|with_reducible apply ct.fc))));(try simp only[uG] at X14);have XC:=X14.at;have XZ:=X14.frozen;have XL:=X14.lt);clear ho)|(go_at_call 54;with_reducible refine' Calls.mono (qA (w0:=w6) y d cy k2 _ g12 N2 ?hp) ?_;(case hp=>(repeat (first|with_reducible assumption|with_reducible apply ct.drew|with_reducible apply ct.alloc|with_reducible apply ct.fc)));rintro e v7 ⟨rfl,PI,ho⟩;(try (have X14:Blk v7 _ #[.int .i64 0,.int .i64 0,.int .i64 0,.int .i64 0,.int .i64 0] 27:=ah.blk ho (by first|with_reducible exact X14|with_reducible exact Blk.new _ _ _|(with_reducible refine Blk.drew ?_;with_reducible exact Blk.new _ _ _)) (ct.ne (by repeat (first|with_reducible assumption|with_reducible apply ct.drew|with_reducible apply ct.alloc|with_reducible apply ct.fc))));(try simp only[uG] at X14);have XC:=X14.at;have XZ:=X14.frozen;have XL:=X14.lt);clear ho))
          all_goals go_wp2_with fail
          all_goals go_meet
          all_goals
           refine⟨_,rfl,?le,Lh ?bl,Lh ?pi⟩
           case le=>first|with_reducible exact Nat.le_refl _|with_reducible exact ct.room (by assumption)
           case pi=>repeat (first|with_reducible assumption|with_reducible apply ct.drew|with_reducible apply ct.alloc|with_reducible apply ct.fc)
           case bl=>first|with_reducible exact Blk.new _ _ _|with_reducible exact Blk.put5 X14 _ _ _ _ _
         case rest =>
          obtain⟨g14,rfl,l14,H14,HPI⟩:=hcut;have ho:=HPI.out.only;have H12b:=Lh HPI.out.blk;have HR7:=Lh (ho.blk HR6.out nnR.out);have u8:=(ho.row? g8 0 18 (aL t8.out) nn8.out).trans t8.out;have u9:=(ho.row? g9 0 18 (aL t9.out) nn9.out).trans t9.out;have u10:=(ho.row? g10 0 18 (aL t10.out) nn10.out).trans t10.out;have u11:=(ho.row? g11 0 18 (aL t11.out) nn11.out).trans t11.out;have hbg:Below w.heap.size w wc:=ah.below ho hbf (Nat.le_refl _) z12;obtain⟨K0,hK0⟩:∃ K,max (max 0 k1) k2=K:=⟨_,rfl⟩;rw[hK0] at H12b E;clear hK0;have v8:=aL u8;have v9:=aL u9;have v10:=aL u10;have v11:=aL u11;have v12:=H12b.out.lt;have v14:=H14.out.lt;have vA:w.heap.size+1<wc.heap.size:=HR7.out.lt;have vB:w.heap.size<wc.heap.size:=by omega
          have m12:=H12.out.lt;have m8:=aL t8.out;have m9:=aL t9.out;have m10:=aL t10.out;have m11:=aL t11.out;have mA:w.heap.size+1<w6.heap.size:=HR6.out.lt;have zA:w.heap.size+1≤g14:=by omega
          have zG:w.heap.size≤g14:=by omega
          have nE:¬ g14=g12:=by omega
          have nF:¬ g12=g14:=by omega
          have nG:¬ w.heap.size+1=g14:=by omega
          have nH:¬ w.heap.size+1=g12:=nnR.out;have n8:¬ g8=g12:=nn8.out;have n9:¬ g9=g12:=nn9.out;have n10:¬ g10=g12:=nn10.out;have n11:¬ g11=g12:=nn11.out;have o8:¬ g8=g14:=by omega
          have o9:¬ g9=g14:=by omega
          have o10:¬ g10=g14:=by omega
          have o11:¬ g11=g14:=by omega
          have GC:=fun i=>H14.out.at i;have GZ:=fun i=>H14.out.frozen i;have RC:=fun i=>HR7.out.at i;have RZ:=fun i=>HR7.out.frozen i;have c12:wc.cell? ⟨g12,0,none⟩=some (.int .i64 K0):=H12b.out.cell rfl;have f12:wc.frozen? ⟨g12,0,none⟩=false:=H12b.out.frozen 0;have i3:=io p sq;rw[N3.out] at i3;have i4:=io q sq;rw[N4.out] at i4;obtain⟨i31,i32⟩:=i3;obtain⟨i41,i42⟩:=i4;simp only at i31 i32 i41 i42;clear HPI ho t4 t5 t6 t7 t8 t9 t10 t11 HR6 H12 m12 m8 m9 m10 m11 mA nn8 nn9 nn10 nn11 nnR;go_wp2_with fail;refine Calls.mono (kU 56 p sq ea k3 K0 g12 _ yB (yX p sq ea k3 N3.out) ?c1 ?c2) ?_;(case c1=>go_simp);(case c2=>go_simp);rintro e wa ⟨rfl,w7,hb7,rfl⟩;have z_w7:=hb7.size;(try simp at z_w7);have K_w7_0:=bq2 hb7 (w.heap.size);have K_w7_g8:=bq hb7 (g8);have K_w7_g9:=bq hb7 (g9);have K_w7_g10:=bq hb7 (g10);have K_w7_g11:=bq hb7 (g11);have K_w7_g12:=bq hb7 (g12);have K_w7_g14:=bq hb7 (g14);go_wp2_with fail;refine Calls.mono (kU 56 q sq ed k4 (max K0 k3) g12 _ yB (yX q sq ed k4 N4.out) ?c1 ?c2) ?_;(case c1=>go_simp);(case c2=>go_simp);rintro e wb ⟨rfl,w8,hb8,rfl⟩;have z_w8:=hb8.size;(try simp at z_w8);have K_w8_0:=bq2 hb8 (w.heap.size);have K_w8_g8:=bq hb8 (g8);have K_w8_g9:=bq hb8 (g9);have K_w8_g10:=bq hb8 (g10);have K_w8_g11:=bq hb8 (g11);have K_w8_g12:=bq hb8 (g12);have K_w8_g14:=bq hb8 (g14);go_wp2_with fail;refine Calls.mono (kU 57 r sq eb k5 (max (max K0 k3) k4) g12 _ By (Bz r sq eb k5 N5.out) ?c1 ?c2) ?_;(case c1=>go_simp);(case c2=>go_simp);rintro e wd ⟨rfl,w9,hb9,rfl⟩;have z_w9:=hb9.size;(try simp at z_w9);have K_w9_0:=bq2 hb9 (w.heap.size);have K_w9_g12:=bq hb9 (g12);have K_w9_g14:=bq hb9 (g14);obtain⟨K,hK⟩:∃ K,max (max (max K0 k3) k4) k5=K:=⟨_,rfl⟩;rw[hK];have hb10:Below w.heap.size w w9:=ad;obtain⟨w10,hw10⟩:∃ w10,w10=w9.setCell ⟨g12,0,none⟩ (.int .i64 K):=⟨_,rfl⟩;rw[← hw10];have hbh:Below w.heap.size w w10:=by rw[hw10];exact Below.setCell hb10 z12 _
          have d0:w10.cell? ⟨g14,0,none⟩=some (.int .i64 cx):=by rw[hw10];go_simp
          have d1:w10.cell? ⟨g14,1,none⟩=some (.int .i64 cy):=by rw[hw10];go_simp
          have d2:w10.cell? ⟨g14,2,none⟩=some (.int .i64 ea):=by rw[hw10];go_simp
          have d3:w10.cell? ⟨g14,3,none⟩=some (.int .i64 0):=by rw[hw10];go_simp
          have d4:w10.cell? ⟨g14,4,none⟩=some (.int .i64 ed):=by rw[hw10];go_simp
          have dz:∀ i,w10.frozen? ⟨g14,i,none⟩=false:=by intro i;rw[hw10];go_simp
          have h7:(w7.cell? ⟨g12,0,none⟩).isSome=true:=by rw[K_w7_g12.2.1 0,c12];rfl
          have h8:(w8.cell? ⟨g12,0,none⟩).isSome=true:=by rw[K_w8_g12.2.1 0];go_simp
          have h9:(w9.cell? ⟨g12,0,none⟩).isSome=true:=by rw[K_w9_g12.2.1 0];go_simp
          have k12:w10.cell? ⟨g12,0,none⟩=some (.int .i64 K):=by rw[hw10];exact World.cell?_setCell_same' _ _ _ h9
          clear h7 h8 h9;have q0:w10.cell? ⟨w.heap.size+1,0,none⟩=some (.int .i64 0):=by rw[hw10];go_simp
          have q1:w10.cell? ⟨w.heap.size+1,1,none⟩=some (.int .i64 0):=by rw[hw10];go_simp
          have q2:w10.cell? ⟨w.heap.size+1,2,none⟩=some (.int .i64 0):=by rw[hw10];go_simp
          have q3:w10.cell? ⟨w.heap.size+1,3,none⟩=some (.int .i64 0):=by rw[hw10];go_simp
          have q4:w10.cell? ⟨w.heap.size+1,4,none⟩=some (.int .i64 0):=by rw[hw10];go_simp
          have qz:∀ i,w10.frozen? ⟨w.heap.size+1,i,none⟩=false:=by intro i;rw[hw10];go_simp
          have E1:Hid (F=cm cx cy ea eb ed K):=by rw[← hK];exact E.out
          clear z_w9 K_w9_0 K_w9_g12 K_w9_g14;clear z_w8 K_w8_0 K_w8_g8 K_w8_g9 K_w8_g10 K_w8_g11 K_w8_g12 K_w8_g14;clear z_w7 K_w7_0 K_w7_g8 K_w7_g9 K_w7_g10 K_w7_g11 K_w7_g12 K_w7_g14;clear hb7 hb8 hb9 hb10 hw10 hK u8 u9 u10 u11 v8 v9 v10 v11 GC GZ RC RZ c12 f12 H14 H12b HR7 hbf hbg;have v14':=block_lt_of_cell d0;have vA':=block_lt_of_cell q0;by_cases hk:K=0
          ·subst hk;by_cases ha:70368744177664≤ea
           ·have E2:Hid (F=(El.zero,2)):=by show _=_;rw[E1.out];unfold cm;rw[if_pos (.inr (.inl ha))]
            go_wp2_with fail;exact rT 5 z5 (.int .i64 2) ⟨by rw[E2.out];rfl,ad⟩
           ·by_cases hd:70368744177664≤ed
            ·have E2:Hid (F=(El.zero,2)):=by show _=_;rw[E1.out];unfold cm;rw[if_pos (.inr (.inr hd))]
             go_wp2_with fail;exact rT 5 z5 (.int .i64 2) ⟨by rw[E2.out];rfl,ad⟩
            ·have E3:F=if El.may ⟨cx,cy,ea+1,eb,ed+1⟩=true then growE ⟨cx,cy,ea+1,eb,ed+1⟩ 1 else (El.zero,2):=by rw[E1.out];unfold cm;rw[if_neg (by rintro(h|h|h);exact h rfl;exact ha h;exact hd h)]
             have ha':ea<70368744177664:=by omega
             have hd':ed<70368744177664:=by omega
             obtain⟨m,hm⟩:∃ m,El.may ⟨cx,cy,ea+1,eb,ed+1⟩=m:=⟨_,rfl⟩;have HM:=Lh hm;rw[hm] at E3;clear hm;go_wp2_with fail;refine(yI _ _ _ _ _ _ HM.out _).mono ?_;rintro e we ⟨rfl,hb11⟩;have z_we:=hb11.size;(try simp at z_we);have K_we_g14:=bq hb11 (g14);obtain⟨yR,cR,fR,rR,tR,pR⟩:=bk hb11 (w.heap.size+1) (by simp;omega);cases m with
             | false =>
              have E2:Hid (F=(El.zero,2)):=by show _=_;rw[E3];rfl
              clear E3;go_wp2_with fail;exact rT 5 z5 (.int .i64 2) ⟨by rw[E2.out];rfl,ad⟩
             | true =>
              obtain⟨⟨fx,fy,fa,fb,fd⟩,fk,hF⟩:∃ o k,growE ⟨cx,cy,ea+1,eb,ed+1⟩ 1=(o,k):=⟨_,_,rfl⟩;have HF:=Lh hF;have E2:Hid (F=(⟨fx,fy,fa,fb,fd⟩,fk)):=by show _=_;rw[E3,← hF];rfl
              clear E3 hF;go_wp2_with fail;refine(sO _ _ _ _ _ _ _ _ _ _ _ _ HF.out _).mono ?_;rintro e wf ⟨rfl,hb12⟩;obtain⟨yR2,cR2,fR2,rR2,tR2,pR2⟩:=bk hb12 (w.heap.size+1) (by first|omega|(simp;omega));have z_wf:=hb12.size;(try simp at z_wf);go_wp2_with fail;exact rT 5 #[.int .i64 fx,.int .i64 fy,.int .i64 fa,.int .i64 fb,.int .i64 fd] (.int .i64 fk) ⟨by rw[E2.out],ad⟩
          ·have nk:(K != 0)=true:=by simp[hk]
           have E2:Hid (F=(El.zero,2)):=by show _=_;rw[E1.out];unfold cm;rw[if_pos (.inl hk)]
           go_wp2_with fail;exact rT 5 z5 (.int .i64 2) ⟨by rw[E2.out];rfl,ad⟩
def Iq.d (i:Iq):Int:=i.A*i.D-i.B*i.B
def Iq.x (i:Iq):Int:=i.D*i.U-i.B*i.V
def Iq.y (i:Iq):Int:=i.A*i.V-i.B*i.U
def Iq.lv (i:Iq):Int:=(i.N-i.Z)*i.d+(i.D*(i.U*i.U)+i.A*(i.V*i.V) + -(2*(i.B*(i.U*i.V))))
def cf (a b:Int):Int × Int:=dS ((2*a+b).fdiv (2*b))
def cD (a b:Int):Int × Int:=dS (cdiv a b)
def db (a b:Int):Int × Int:=dS (a.fdiv b)
def ellI (i:Iq):El × Int :=
 if i.A≤0∨i.d≤0 then (El.zero,1)
 else if i.lv<0 then (El.zero,3)
 else cm (cf i.x i.d).1 (cf i.y i.d).1 (cD (i.lv*i.D) (i.d*i.d)).1 (db (-(i.lv*i.B)) (i.d*i.d)).1 (cD (i.lv*i.A) (i.d*i.d)).1
  (max (max (max (max (max 0 (cf i.x i.d).2) (cf i.y i.d).2) (cD (i.lv*i.D) (i.d*i.d)).2) (cD (i.lv*i.A) (i.d*i.d)).2) (db (-(i.lv*i.B)) (i.d*i.d)).2)
theorem WI.cl {a:Int} (h:a.natAbs<lim):(WI.of a).ov=false:=by unfold WI.ov;rw [WI.of_v h];rfl
theorem bG (a:Int):a.sign≤0↔a≤0:=by
 rcases Int.lt_trichotomy a 0 with h|h|h
 ·rw[Int.sign_eq_neg_one_of_neg h];omega
 ·subst h;simp
 ·rw[Int.sign_eq_one_of_pos h];omega
theorem dQ (a:Int):a.sign<0↔a<0:=by
 rcases Int.lt_trichotomy a 0 with h|h|h
 ·rw[Int.sign_eq_neg_one_of_neg h];omega
 ·subst h;simp
 ·rw[Int.sign_eq_one_of_pos h];omega
structure Iq.Out (i:Iq):Prop where
 d:Sm 411 i.d
 x:Sm 411 i.x
 y:Sm 411 i.y
 lv:Sm 630 i.lv
theorem Iq.out {i:Iq} (h:i.Sml 205):i.Out:=by
 refine⟨(h.A.mul h.D).sub (h.B.mul h.B),(h.D.mul h.U).sub (h.B.mul h.V),(h.A.mul h.V).sub (h.B.mul h.U),?_⟩;have hd:Sm 411 i.d:=(h.A.mul h.D).sub (h.B.mul h.B);have h2:Sm 2 2:=by unfold Sm;decide
 have a1:=((h.N.sub h.Z).mul hd).mono (show 206+411≤628 by decide);have a2:=((h.D.mul (h.U.mul h.U)).add (h.A.mul (h.V.mul h.V))).mono (show 205+(205+205)+1≤627 by decide);have a3:=((h2.mul (h.B.mul (h.U.mul h.V))).neg).mono (show 2+(205+(205+205))≤627 by decide);have:=(a1.add (a2.add a3)).mono (show 628+1≤630 by decide);exact this
theorem FI (i:Iq) (h:i.Sml 205) (w:World) :
  Calls Tryz.prog 15 #[iqV i] w fun e w'=>e = .returned (.tuple #[elV (ellI i).1,.int .i64 (ellI i).2])∧Below w.heap.size w w':=by
 have o:=Iq.out h;have lA:=h.A.lim (by decide);have lB:=h.B.lim (by decide);have lD:=h.D.lim (by decide);have lU:=h.U.lim (by decide);have lV:=h.V.lim (by decide);have lZ:=h.Z.lim (by decide);have lN:=h.N.lim (by decide);have ld:=o.d.lim (by decide);have lx:=o.x.lim (by decide);have ly:=o.y.lim (by decide);have ll:=o.lv.lim (by decide);have s2:Sm 205 2:=by unfold Sm;exact Nat.le_trans (by decide) (Nat.pow_le_pow_right (by decide) (show 1≤205 by decide))
 have HD:((WI.of i.A).mul (WI.of i.D)).sub ((WI.of i.B).mul (WI.of i.B))=WI.of i.d:=by
  rw[WI.au lA lD,WI.au lB lB,WI.ez ((h.A.mul h.D).lim (by decide)) ((h.B.mul h.B).lim (by decide))];rfl
 have HX:((WI.of i.D).mul (WI.of i.U)).sub ((WI.of i.B).mul (WI.of i.V))=WI.of i.x:=by
  rw[WI.au lD lU,WI.au lB lV,WI.ez ((h.D.mul h.U).lim (by decide)) ((h.B.mul h.V).lim (by decide))];rfl
 have HY:((WI.of i.A).mul (WI.of i.V)).sub ((WI.of i.B).mul (WI.of i.U))=WI.of i.y:=by
  rw[WI.au lA lV,WI.au lB lU,WI.ez ((h.A.mul h.V).lim (by decide)) ((h.B.mul h.U).lim (by decide))];rfl
 have HL:i9 (WI.of i.A) (WI.of i.B) (WI.of i.D) (WI.of i.U) (WI.of i.V) (WI.of i.Z) (WI.of i.N) (WI.of i.d)=WI.of i.lv:=by
  unfold i9;have a1:=((h.N.sub h.Z).mul o.d);have a2:=((h.D.mul (h.U.mul h.U)).add (h.A.mul (h.V.mul h.V)));have a3:=s2.mul (h.B.mul (h.U.mul h.V))
  rw[WI.ez lN lZ,WI.au ((h.N.sub h.Z).lim (by decide)) ld,WI.au lU lU,WI.au lV lV,
   kR (j:=410) _ _ _ _ (h.D.mono (by decide)) (h.U.mul h.U) (h.A.mono (by decide)) (h.V.mul h.V) (by decide),WI.au lU lV,WI.au lB ((h.U.mul h.V).lim (by decide)),
   WI.au (s2.lim (by decide)) ((h.B.mul (h.U.mul h.V)).lim (by decide)),WI.of_neg (a3.lim (by decide)),WI.ce (a2.lim (by decide)) (a3.neg.lim (by decide)),
   WI.ce (a1.lim (by decide)) (((a2.mono (show 205+(205+205)+1≤900 by decide)).add (a3.neg.mono (show 205+(205+(205+205))≤900 by decide))).lim (by decide))]
  rfl
 have HS:(WI.of i.d).mul (WI.of i.d)=WI.of (i.d*i.d):=WI.au ld ld;have HP:(WI.of i.lv).mul (WI.of i.D)=WI.of (i.lv*i.D):=WI.au ll lD;have HQ:(WI.of i.lv).mul (WI.of i.A)=WI.of (i.lv*i.A):=WI.au ll lA;have HR:((WI.of i.lv).mul (WI.of i.B)).neg=WI.of (-(i.lv*i.B)):=by rw[WI.au ll lB,WI.of_neg ((o.lv.mul h.B).lim (by decide))]
 have sP:=(o.lv.mul h.D);have sQ:=(o.lv.mul h.A);have sR:=(o.lv.mul h.B).neg;have sS:=o.d.mul o.d
 have HV:ew [WI.of i.A,WI.of i.B,WI.of i.D,WI.of i.U,WI.of i.V,WI.of i.Z,WI.of i.N]=false:=by
  simp[ew,WI.cl lA,WI.cl lB,WI.cl lD,WI.cl lU,WI.cl lV,WI.cl lZ,WI.cl lN]
 have HW:ew [WI.of i.d,WI.of i.x,WI.of i.y,WI.of i.lv,WI.of (i.d*i.d),WI.of (i.lv*i.D),WI.of (i.lv*i.A),WI.of (-(i.lv*i.B))]=false:=by
  simp[ew,WI.cl ld,WI.cl lx,WI.cl ly,WI.cl ll,WI.cl (sS.lim (by decide)),WI.cl (sP.lim (by decide)),WI.cl (sQ.lim (by decide)),WI.cl (sR.lim (by decide))]
 have gA:(WI.of i.A).sign=i.A.sign:=WI.di lA;have gd:(WI.of i.d).sign=i.d.sign:=WI.di ld;have gl:(WI.of i.lv).sign=i.lv.sign:=WI.di ll;have N1:0<i.d→bR (WI.of i.x) (WI.of i.d)=cf i.x i.d:=fun hd=>i8 _ _ (o.x.mono (by decide)) (o.d.mono (by decide)) hd;have N2:0<i.d→bR (WI.of i.y) (WI.of i.d)=cf i.y i.d:=fun hd=>i8 _ _ (o.y.mono (by decide)) (o.d.mono (by decide)) hd;have p2:0<i.d→0<i.d*i.d:=fun hd=>Int.mul_pos hd hd;have N3:0<i.d→bP (WI.of (i.lv*i.D)) (WI.of (i.d*i.d))=cD (i.lv*i.D) (i.d*i.d):=fun hd=>jp _ _ (sP.mono (by decide)) (sS.mono (by decide)) (p2 hd);have N4:0<i.d→bP (WI.of (i.lv*i.A)) (WI.of (i.d*i.d))=cD (i.lv*i.A) (i.d*i.d):=fun hd=>jp _ _ (sQ.mono (by decide)) (sS.mono (by decide)) (p2 hd);have N5:0<i.d→floorV (WI.of (-(i.lv*i.B))) (WI.of (i.d*i.d))=db (-(i.lv*i.B)) (i.d*i.d):=fun hd=>jL _ _ (sR.mono (by decide)) (sS.mono (by decide)) (p2 hd);have pos:∀ a:Int,0<a.sign→0<a:=fun a ha=>by have:=bG a;omega
 have nng:∀ a:Int,0≤a.sign→0≤a:=fun a ha=>by have:=dQ a;omega
 refine yJ _ _ _ _ _ _ _ _ _ _ _ _ _ _ _ HD HX HY HL HS HP HQ HR HV HW (ellI i) ?_ ?_ (bR (WI.of i.x) (WI.of i.d)).1 (bR (WI.of i.y) (WI.of i.d)).1 (bP (WI.of (i.lv*i.D)) (WI.of (i.d*i.d))).1 (floorV (WI.of (-(i.lv*i.B))) (WI.of (i.d*i.d))).1 (bP (WI.of (i.lv*i.A)) (WI.of (i.d*i.d))).1 (bR (WI.of i.x) (WI.of i.d)).2 (bR (WI.of i.y) (WI.of i.d)).2 (bP (WI.of (i.lv*i.D)) (WI.of (i.d*i.d))).2 (bP (WI.of (i.lv*i.A)) (WI.of (i.d*i.d))).2 (floorV (WI.of (-(i.lv*i.B))) (WI.of (i.d*i.d))).2 rfl rfl rfl rfl rfl ?_ w
 ·intro hs;rw[gA,gd,bG,bG] at hs;unfold ellI;rw[if_pos hs]
 ·intro h1 h2 h3;rw[gA] at h1;rw[gd] at h2;rw[gl,dQ] at h3;have:=pos _ h1;have:=pos _ h2;unfold ellI;rw[if_neg (by omega),if_pos h3]
 ·intro h1 h2 h3;rw[gA] at h1;rw[gd] at h2;rw[gl] at h3;have q1:=pos _ h1;have q2:=pos _ h2;have q3:=nng _ h3;rw[N1 q2,N2 q2,N3 q2,N4 q2,N5 q2];unfold ellI;rw[if_neg (by omega),if_neg (by omega)]
def bU (i j:Iq) (k bad:Int):El × Int:=if bad=0 then (if (mixQ i j k).2=0 then ellI (mixQ i j k).1 else (El.zero,1)) else (El.zero,1)
theorem FA (i j m:Iq) (e:Int) (hi:i.Sml 120) (hj:j.Sml 120) (k:Int) (h:mixQ i j k=(m,e)) (w:World) :
  Calls Tryz.prog 142 #[.agg (blk i.ws),.agg (blk j.ws),.int .i64 k] w fun r w'=>r = .returned (.tuple #[.agg (blk m.ws),.int .i64 e])∧Below w.heap.size w w':=by
 have:=FB i j hi hj k w;rw[h] at this;exact this
theorem FG (m:Iq) (h:m.Sml 205) (o:El) (e:Int) (ho:ellI m=(o,e)) (w:World) :
  Calls Tryz.prog 15 #[.agg (blk m.ws)] w fun r w'=>r = .returned (.tuple #[elV o,.int .i64 e])∧Below w.heap.size w w':=by
 have:=FI m h w;rw[ho] at this;exact this
theorem ug (i j:Iq) (hi:i.Sml 120) (hj:j.Sml 120) (k bad:Int) (hm:(mixQ i j k).1.Sml 205) (w:World) :
  Calls Tryz.prog 112 #[.agg (blk i.ws),.agg (blk j.ws),.int .i64 k,.int .i64 bad] w fun r w'=>r = .returned (.tuple #[elV (bU i j k bad).1,.int .i64 (bU i j k bad).2])∧Below w.heap.size w w':=by
 obtain⟨m,e,hq⟩:∃ m e,mixQ i j k=(m,e):=⟨_,_,rfl⟩;have E0:bU i j k bad=if bad=0 then (if e=0 then ellI m else (El.zero,1)) else (El.zero,1):=by unfold bU;rw[hq]
 rw[hq] at hm;have HQ:=Lh hq;have HI:=Lh hi;have HJ:=Lh hj;have HM:=Lh hm;clear hq hi hj hm;have lI:i.ws.length=7:=rfl;have lJ:j.ws.length=7:=rfl;have lM:m.ws.length=7:=rfl;obtain⟨LI,eI⟩:∃ l,l=i.ws:=⟨_,rfl⟩;obtain⟨LJ,eJ⟩:∃ l,l=j.ws:=⟨_,rfl⟩;obtain⟨LM,eM⟩:∃ l,l=m.ws:=⟨_,rfl⟩
 have C1:Hid (∀ w,Calls Tryz.prog 142 #[.agg (blk LI),.agg (blk LJ),.int .i64 k] w fun r w'=>r = .returned (.tuple #[.agg (blk LM),.int .i64 e])∧Below w.heap.size w w'):=by
  rw[eI,eJ,eM];exact fun w=>FA i j m e HI.out HJ.out k HQ.out w
 obtain⟨⟨ox,oy,oa,ob,od⟩,f,ho⟩:∃ o f,ellI m=(o,f):=⟨_,_,rfl⟩
 have C2:Hid (∀ w,Calls Tryz.prog 15 #[.agg (blk LM)] w fun r w'=>r = .returned (.tuple #[elC ox oy oa ob od,.int .i64 f])∧Below w.heap.size w w'):=by
  rw[eM];exact fun w=>FG m HM.out _ _ ho w
 rw[← eI] at lI;rw[← eJ] at lJ;rw[← eM] at lM;rw[← eI,← eJ];rw[ho] at E0;have E:=Lh E0;clear E0 ho eI eJ eM HQ HI HJ HM;by_cases hb:bad=0
 ·subst hb;by_cases he:e=0
  ·subst he;go_enter Tryz.func112,Tryz.ntmps112;go_wp2_with fail;refine(C1.out _).mono ?_;rintro e w1 ⟨rfl,hb1⟩;have z_w1:=hb1.size;(try simp at z_w1);have K_w1_0:=bq3 hb1 (w.heap.size);go_wp2_with fail;refine(C2.out _).mono ?_;rintro e w2 ⟨rfl,hb2⟩;have z_w2:=hb2.size;(try simp at z_w2);have K_w2_0:=bq3 hb2 (w.heap.size);go_wp2_with fail;exact rT 5 #[.int .i64 ox,.int .i64 oy,.int .i64 oa,.int .i64 ob,.int .i64 od] (.int .i64 f) ⟨by rw[E.out];rfl,ad⟩
  ·have ne:(e != 0)=true:=by simp[he]
   have EV:Hid (bU i j k 0=(El.zero,1)):=by show _=_;rw[E.out,if_pos rfl,if_neg he]
   clear E;go_enter Tryz.func112,Tryz.ntmps112;go_wp2_with fail;refine(C1.out _).mono ?_;rintro e w1 ⟨rfl,hb1⟩;have z_w1:=hb1.size;(try simp at z_w1);have K_w1_0:=bq3 hb1 (w.heap.size);go_wp2_with fail;exact rT 5 z5 (.int .i64 1) ⟨by rw[EV.out];rfl,ad⟩
 ·have nb:(bad != 0)=true:=by simp[hb]
  have EV:Hid (bU i j k bad=(El.zero,1)):=by show _=_;rw[E.out,if_neg hb]
  clear E;go_enter Tryz.func112,Tryz.ntmps112;go_wp2_with fail;refine(C1.out _).mono ?_;rintro e w1 ⟨rfl,hb1⟩;have z_w1:=hb1.size;(try simp at z_w1);have K_w1_0:=bq3 hb1 (w.heap.size);go_wp2_with fail;exact rT 5 z5 (.int .i64 1) ⟨by rw[EV.out];rfl,ad⟩
def Iq.hom (i:Iq) (p q t:Int):Int:=i.A*(p*p)+2*(i.B*(p*q))+i.D*(q*q)-2*((i.U*p+i.V*q)*t)+i.Z*(t*t)
theorem mG (e:El) (p q t:Int):(ofEl e).hom p q t=form e.d (-e.b) e.a (p-e.x*t) (q-e.y*t):=by
 unfold Iq.hom ofEl form;grind
theorem uo (i j:Iq) (k p q t:Int):(mixI i j k).hom p q t=k*j.N*i.hom p q t+(34-k)*i.N*j.hom p q t:=by
 unfold Iq.hom mixI;simp only;grind
theorem oc (i j:Iq) (k:Int):mixI i j k=mixI j i (34-k):=by
 unfold mixI;have h:34-(34-k)=k:=by omega
 rw[h];congr 1 <;> grind
theorem qW (i:Iq) (p q t:Int):form i.A i.B i.D (i.d*p-i.x*t) (i.d*q-i.y*t)=i.d*(i.d*(i.hom p q t-i.N*(t*t))+i.lv*(t*t)):=by
 unfold form Iq.hom Iq.lv Iq.x Iq.y Iq.d;grind
theorem mL (a b d h k:Int) (ha:0<a) (hd:0<a*d-b*b):0≤form a b d h k:=by
 have e:a*form a b d h k=(a*h+b*k)*(a*h+b*k)+(a*d-b*b)*(k*k):=by unfold form;grind
 have h1:=ax (a*h+b*k);have h2:=Int.mul_nonneg (show 0≤a*d-b*b by omega) (ax k);have h3:a*0≤a*form a b d h k:=by rw[e,Int.mul_zero];omega
 exact Int.le_of_mul_le_mul_left h3 ha
theorem wE (i:Iq) (hd:0<i.d) (hl:0≤i.lv):i.hom i.x i.y i.d≤i.N*(i.d*i.d):=by
 have h0:=qW i i.x i.y i.d;have e1:i.d*i.x-i.x*i.d=0:=by grind
 have e2:i.d*i.y-i.y*i.d=0:=by grind
 have e0:form i.A i.B i.D 0 0=0:=by unfold form;simp
 rw[e1,e2,e0] at h0
 have h1:i.d*(i.hom i.x i.y i.d-i.N*(i.d*i.d))+i.lv*(i.d*i.d)=0:=by
  rcases Int.mul_eq_zero.1 h0.symm with h|h
  ·omega
  ·exact h
 have h2:=Int.mul_nonneg hl (ax i.d);have h3:i.d*(i.hom i.x i.y i.d-i.N*(i.d*i.d))≤i.d*0:=by rw[Int.mul_zero];omega
 have:=Int.le_of_mul_le_mul_left h3 hd;omega
theorem vQ (i:Iq) (hA:0<i.A) (hd:0<i.d) (p q:Int) (h:i.hom p q 1≤i.N) :
  0≤i.lv∧form i.A i.B i.D (i.d*p-i.x) (i.d*q-i.y)≤i.d*i.lv:=by
 have h1:=qW i p q 1;rw[Int.mul_one,Int.mul_one,Int.mul_one,Int.mul_one,Int.mul_one] at h1;have h2:=mL i.A i.B i.D (i.d*p-i.x) (i.d*q-i.y) hA hd;have h3:=Int.mul_nonneg (show 0≤i.d by omega) (show 0≤i.N-i.hom p q 1 by omega);have h4:i.d*(i.d*(i.hom p q 1-i.N)+i.lv)=i.d*i.lv-i.d*(i.d*(i.N-i.hom p q 1)):=by grind
 have h5:=Int.mul_nonneg (show 0≤i.d by omega) h3;rw[h4] at h1;refine⟨?_,by omega⟩;have h6:i.d*0≤i.d*i.lv:=by rw[Int.mul_zero];omega
 exact Int.le_of_mul_le_mul_left h6 hd
theorem BP (a b d x y h k:Int) (_ha:0<a) (_hd:0<a*d-b*b):(a*d-b*b)*((x*h+y*k)*(x*h+y*k))≤form a b d x y*form d (-b) a h k:=by
 have e:form a b d x y*form d (-b) a h k=(a*d-b*b)*((x*h+y*k)*(x*h+y*k))+(k*(a*x+b*y)-h*(b*x+d*y))*(k*(a*x+b*y)-h*(b*x+d*y)):=by
  unfold form;grind
 have:=ax (k*(a*x+b*y)-h*(b*x+d*y));omega
/-! ### Ellipses and strips as inequalities -/
theorem mv (e:El) (h:e.may=true):0<(ofEl e).A∧0<(ofEl e).D∧0<(ofEl e).d∧0<(ofEl e).N:=by
 have m:=(El.aQ e).1 h;have h1:(ofEl e).d=e.a*e.d-e.b*e.b:=by unfold Iq.d ofEl;simp only;grind
 exact⟨by show 0<e.d;omega,by show 0<e.a;omega,by rw[h1];omega,by show 0<e.a*e.d-e.b*e.b;omega⟩
theorem zw (a b d u v T:Int) (hm:0<a) (hn:0<a*d-b*b) (h:form d (-b) a u v≤T*(a*d-b*b)):u*u≤T*a:=by
 have e:a*form d (-b) a u v=(a*d-b*b)*(u*u)+(a*v-b*u)*(a*v-b*u):=by unfold form;grind
 have h1:=ax (a*v-b*u);have h2:=Int.mul_le_mul_of_nonneg_left h (show 0≤a by omega);have h3:a*(T*(a*d-b*b))=(a*d-b*b)*(T*a):=by grind
 have h4:(a*d-b*b)*(u*u)≤(a*d-b*b)*(T*a):=by omega
 exact Int.le_of_mul_le_mul_left h4 hn
theorem Eo (a b d u v T:Int) (hm:0<d) (hn:0<a*d-b*b) (h:form d (-b) a u v≤T*(a*d-b*b)):v*v≤T*d:=by
 have e:form d (-b) a u v=form a (-b) d v u:=by unfold form;grind
 rw[e] at h;have e2:a*d-b*b=d*a-b*b:=by grind
 exact zw d b a v u T hm (by omega) (by rw[e2] at h;exact h)
theorem gv (e:El) (h:e.may=true) (u v:Int):0≤form e.d (-e.b) e.a u v:=by
 have m:=(El.aQ e).1 h;have h1:e.d*e.a - -e.b * -e.b=e.a*e.d-e.b*e.b:=by grind
 exact mL _ _ _ _ _ (by omega) (by omega)
theorem rx (e:El) (he:e.may=true) (j:Iq) (hj:0<j.N) (k:Int) (h1:1≤k) (h2:k≤34) (X Y t:Int) (hn:0≤j.hom X Y t)
  (h:(mixI (ofEl e) j k).hom X Y t≤(mixI (ofEl e) j k).N*(t*t)):k*form e.d (-e.b) e.a (X-e.x*t) (Y-e.y*t)≤34*(t*t)*(e.a*e.d-e.b*e.b):=by
 have o:=mv e he;have hN:(ofEl e).N=e.a*e.d-e.b*e.b:=rfl;rw[uo,mG] at h;have h3:(mixI (ofEl e) j k).N=34*((ofEl e).N*j.N):=rfl;rw[h3] at h;rw[← hN];obtain⟨F,hF⟩:∃ F,form e.d (-e.b) e.a (X-e.x*t) (Y-e.y*t)=F:=⟨_,rfl⟩;obtain⟨N,hN'⟩:∃ F,(ofEl e).N=F:=⟨_,rfl⟩;rw[hF] at h ⊢;rw[hN'] at h ⊢;have hNp:0<N:=by rw[← hN'];exact o.2.2.2
 have p1:0≤(34-k)*N*j.hom X Y t:=Int.mul_nonneg (Int.mul_nonneg (by omega) (by omega)) hn;have p3:34*(N*j.N)*(t*t)=j.N*(34*(t*t)*N):=by grind
 have p2:k*j.N*F=j.N*(k*F):=by grind
 have p4:j.N*(k*F)≤j.N*(34*(t*t)*N):=by omega
 exact Int.le_of_mul_le_mul_left p4 hj
theorem AI {z m:Int} (hm:0≤m) (h:z*z≤m*m) : -m≤z∧z≤m:=qg hm h
theorem nU (X d c:Int) (hd:0<d) (hc : -4194304≤c∧c≤4194304) (h:(X-c*d)*(X-c*d)≤34*(d*d)*70368744177664):(cf X d).2=0:=by
 have h1:(X-c*d)*(X-c*d)≤(67108864*d)*(67108864*d):=by
  have h2:=ax d;have e:(67108864*d)*(67108864*d)=4503599627370496*(d*d):=by grind
  rw[e];omega
 have h3:=AI (by omega) h1;have c1:=Int.mul_le_mul_of_nonneg_right hc.1 (show 0≤d by omega);have c2:=Int.mul_le_mul_of_nonneg_right hc.2 (show 0≤d by omega);have f:=cI (2*X+d) (2*d) (by omega);obtain⟨Q,hQ⟩:∃ Q,(2*X+d).fdiv (2*d)=Q:=⟨_,rfl⟩;rw[hQ] at f
 have q1:Q≤1073741824:=by
  rcases Int.lt_or_le 1073741824 Q with h5|h5
  ·have:=Int.mul_le_mul_of_nonneg_left (show 1073741825≤Q by omega) (show 0≤2*d by omega);omega
  ·exact h5
 have q2 : -1073741824≤Q:=by
  rcases Int.lt_or_le Q (-1073741824) with h5|h5
  ·have:=Int.mul_le_mul_of_nonneg_left (show Q ≤ -1073741825 by omega) (show 0≤2*d by omega);omega
  ·exact h5
 unfold cf;rw[hQ];unfold dS;rw[if_pos (by omega)]
/-! ### How great the numbers are -/
structure Iq.Cls (zs ns:Nat) (i:Iq):Prop where
 A:Sm 80 i.A
 B:Sm 80 i.B
 D:Sm 80 i.D
 U:Sm 80 i.U
 V:Sm 80 i.V
 Z:Sm zs i.Z
 N:Sm ns i.N
theorem bM (n:Nat):Sm n 0:=Nat.zero_le _
theorem Iq.pU (zs ns:Nat):Iq.zero.Cls zs ns:=⟨bM _,bM _,bM _,bM _,bM _,bM _,bM _⟩
theorem Iq.Cls.sml {zs ns:Nat} {i:Iq} (h:i.Cls zs ns) (h1:zs≤120) (h2:ns≤120):i.Sml 120 :=
 ⟨h.A.mono (by decide),h.B.mono (by decide),h.D.mono (by decide),h.U.mono (by decide),h.V.mono (by decide),h.Z.mono h1,h.N.mono h2⟩
theorem el (e:El):(ofE e).1.Cls 93 93:=by
 unfold ofE;split
 ·rename_i h;have m:=(El.aQ e).1 h;have sx:Sm 22 e.x:=by show e.x.natAbs≤2^22;omega
  have sy:Sm 22 e.y:=by show e.y.natAbs≤2^22;omega
  have sa:Sm 46 e.a:=by show e.a.natAbs≤2^46;omega
  have sb:Sm 46 e.b:=by show e.b.natAbs≤2^46;omega
  have sd:Sm 46 e.d:=by show e.d.natAbs≤2^46;omega
  refine⟨sd.mono (by decide),sb.neg.mono (by decide),sa.mono (by decide),((sd.mul sx).add (sb.neg.mul sy)).mono (by decide),((sb.neg.mul sx).add (sa.mul sy)).mono (by decide),?_,?_⟩
  ·exact(((sd.mul (sx.mul sx)).add (sa.mul (sy.mul sy))).add ((sb.neg.mul (sx.mul sy)).add (sb.neg.mul (sx.mul sy)))).mono (by decide)
  ·exact((sa.mul sd).sub (sb.mul sb)).mono (by decide)
 ·exact Iq.pU _ _
theorem mo (s:St):(ofSt s).1.Cls 105 103:=by
 unfold ofSt;split
 ·rename_i h;obtain⟨m1,m2,-,m3,m4,m5⟩:=(St.aQ s).1 h;have sx:Sm 25 (2*s.hx):=by show(2*s.hx).natAbs≤2^25;omega
  have sy:Sm 25 (2*s.hy):=by show(2*s.hy).natAbs≤2^25;omega
  have ox:Sm 22 s.ox:=by show s.ox.natAbs≤2^22;omega
  have oy:Sm 22 s.oy:=by show s.oy.natAbs≤2^22;omega
  have q1:Sm 51 (s.lo+s.hi):=by show(s.lo+s.hi).natAbs≤2^51;omega
  have q2:Sm 51 (s.hi-s.lo):=by show(s.hi-s.lo).natAbs≤2^51;omega
  have sm:Sm 52 s.m:=by
   have a1:=sx.mul ox;have a2:=sy.mul oy;unfold Sm at *;unfold St.m;omega
  exact⟨(sx.mul sx).mono (by decide),(sx.mul sy).mono (by decide),(sy.mul sy).mono (by decide),(sm.mul sx).mono (by decide),(sm.mul sy).mono (by decide),(sm.mul sm).mono (by decide),(q2.mul q2).mono (by decide)⟩
 ·exact Iq.pU _ _
theorem qM {i j:Iq} {a b c d:Nat} (hi:i.Cls a b) (hj:j.Cls c d) (k:Int) (h0:0≤k) (h1:k≤34) (q1:a+d≤198) (q2:c+b≤198) (q3:b≤118) (q4:d≤118) (q5:b+d≤199):(mixI i j k).Sml 205:=by
 have sk:Sm 6 k:=by show k.natAbs≤2^6;omega
 have sl:Sm 6 (34-k):=by show(34-k).natAbs≤2^6;omega
 have s34:Sm 6 34:=by show(34:Int).natAbs≤2^6;decide
 have P:=sk.mul hj.N;have Q:=sl.mul hi.N
 have key:∀ x y,Sm 80 x→Sm 80 y→Sm 205 (x*(k*j.N)+y*((34-k)*i.N)):=fun x y hx hy =>
  ((hx.mul P).mono (show 80+(6+d)≤204 by omega)).add ((hy.mul Q).mono (show 80+(6+b)≤204 by omega))
 refine⟨key _ _ hi.A hj.A,key _ _ hi.B hj.B,key _ _ hi.D hj.D,key _ _ hi.U hj.U,key _ _ hi.V hj.V,?_,?_⟩
 ·exact((hi.Z.mul P).mono (show a+(6+d)≤204 by omega)).add ((hj.Z.mul Q).mono (show c+(6+b)≤204 by omega))
 ·exact(s34.mul (hi.N.mul hj.N)).mono (by omega)
def Iq.Fits (i:Iq):Prop:=0<i.A→0<i.d→0≤i.lv→(cf i.x i.d).2=0∧(cf i.y i.d).2=0
theorem nZ (e:El) (he:e.may=true) (j:Iq) (hj:0<j.N) (hn:∀ X Y t,0≤j.hom X Y t) (k:Int) (h1:1≤k) (h2:k≤34):(mixI (ofEl e) j k).Fits:=by
 intro hA hd hl;have m:=(El.aQ e).1 he;have c:=wE _ hd hl;have c2:=rx e he j hj k h1 h2 _ _ _ (hn _ _ _) c;generalize hi:mixI (ofEl e) j k=i at *;have n0:=gv e he (i.x-e.x*i.d) (i.y-e.y*i.d);have n1:=Int.mul_le_mul_of_nonneg_right h1 n0;have n2:form e.d (-e.b) e.a (i.x-e.x*i.d) (i.y-e.y*i.d)≤34*(i.d*i.d)*(e.a*e.d-e.b*e.b):=by omega
 have a1:=zw _ _ _ _ _ _ (by omega) m.2.2 n2;have a2:=Eo _ _ _ _ _ _ (by omega) m.2.2 n2;have dd:=ax i.d;have b1:=Int.mul_le_mul_of_nonneg_left (show e.a≤70368744177664 by omega) (show 0≤34*(i.d*i.d) by omega);have b2:=Int.mul_le_mul_of_nonneg_left (show e.d≤70368744177664 by omega) (show 0≤34*(i.d*i.d) by omega);exact⟨nU _ _ e.x hd ⟨by omega,by omega⟩ (by omega),nU _ _ e.y hd ⟨by omega,by omega⟩ (by omega)⟩
theorem uU:Iq.zero.Fits:=fun h=>absurd h (by decide)
theorem gf (j:Iq) (k:Int):(mixI Iq.zero j k).Fits:=by
 intro h;have:(mixI Iq.zero j k).A=0:=by unfold mixI Iq.zero;simp only;grind
 omega
theorem kL (j:Iq) (k:Int):(mixI j Iq.zero k).Fits:=by
 rw[oc];exact gf _ _
theorem iv (e:El) (h:e.may=true) (X Y t:Int):0≤(ofEl e).hom X Y t:=by rw [mG];exact gv e h _ _
theorem vX (e f:El) (k:Int):(mixQ (ofE e).1 (ofE f).1 k).1.Fits:=by
 unfold mixQ;split
 ·rename_i hk;show(mixI (ofE e).1 (ofE f).1 k).Fits;cases he:e.may with
  | false => have : ofE e = (Iq.zero, 1) := by unfold ofE; rw[if_neg (by rw[he]; decide)]
             rw[this];exact gf _ _
  | true =>
   have e1:ofE e=(ofEl e,0):=by unfold ofE;rw[if_pos he]
   cases hf:f.may with
   | false => have : ofE f = (Iq.zero, 1) := by unfold ofE; rw[if_neg (by rw[hf]; decide)]
              rw[this];exact kL _ _
   | true =>
    have e2:ofE f=(ofEl f,0):=by unfold ofE;rw[if_pos hf]
    rw[e1,e2];by_cases h1:1≤k
    ·exact nZ e he _ (mv f hf).2.2.2 (iv f hf) k h1 hk.2
    ·rw[oc];exact nZ f hf _ (mv e he).2.2.2 (iv e he) _ (by omega) (by omega)
 ·exact uU
theorem rc (e f:El) (k:Int):(mixQ (ofE e).1 (ofE f).1 k).1.Sml 205:=by
 unfold mixQ;split
 ·rename_i hk;exact qM (el e) (el f) k hk.1 hk.2 (by decide) (by decide) (by decide) (by decide) (by decide)
 ·exact⟨bM _,bM _,bM _,bM _,bM _,bM _,bM _⟩
theorem uK (e:El) (s:St) (k:Int):(mixQ (ofE e).1 (ofSt s).1 k).1.Sml 205:=by
 unfold mixQ;split
 ·rename_i hk;exact qM (el e) (mo s) k hk.1 hk.2 (by decide) (by decide) (by decide) (by decide) (by decide)
 ·exact⟨bM _,bM _,bM _,bM _,bM _,bM _,bM _⟩
/-! ### What an inequality's ellipse holds -/
theorem jf {z:Int} (h:(dS z).2=0):(dS z).1=z:=by
 unfold dS at *;split at h
 ·rename_i h1;rw[if_pos h1]
 ·cases h
theorem gB (z:Int):(dS z).2=0∨(dS z).2=2:=by
 unfold dS;split
 ·exact .inl rfl
 ·exact .inr rfl
theorem vf (e f:El):(sumE e f).2=0∨(sumE e f).2=1∨(sumE e f).2=2:=by
 unfold sumE;split
 ·split
  ·exact .inl rfl
  ·exact .inr (.inr rfl)
 ·exact .inr (.inl rfl)
theorem sU (e:El) (r:Int):(growE e r).2=0∨(growE e r).2=1∨(growE e r).2=2:=by
 unfold growE;split
 ·split
  ·exact .inl rfl
  ·exact vf _ _
 ·exact .inr (.inl rfl)
theorem rj (cx cy a b d e:Int):(cm cx cy a b d e).2=0∨(cm cx cy a b d e).2=1∨(cm cx cy a b d e).2=2:=by
 unfold cm;split
 ·exact .inr (.inr rfl)
 ·split
  ·exact sU _ _
  ·exact .inr (.inr rfl)
theorem oG {cx cy a b d e:Int} {o:El} (h:cm cx cy a b d e=(o,0)):e=0∧growE ⟨cx,cy,a+1,b,d+1⟩ 1=(o,0):=by
 unfold cm at h;split at h
 ·injection h with _ h2;cases h2
 ·rename_i h1;split at h
  ·exact⟨by omega,h⟩
  ·injection h with _ h2;cases h2
theorem nT (x d:Int) (hd:0<d) : -d≤2*(x-d*(2*x+d).fdiv (2*d))∧2*(x-d*(2*x+d).fdiv (2*d))≤d:=by
 have f:=cI (2*x+d) (2*d) (by omega);have e:2*d*(2*x+d).fdiv (2*d)=2*(d*(2*x+d).fdiv (2*d)):=by grind
 omega
theorem yw (s t d h k:Int) (_hd:0<d) (h1 : -d≤2*s) (h2:2*s≤d) (h3 : -d≤2*t) (h4:2*t≤d):(s*h+t*k)*(s*h+t*k)≤d*d*form 1 0 1 h k:=by
 have a1:=Int.mul_nonneg (show 0≤d-2*s by omega) (show 0≤d+2*s by omega);have a2:=Int.mul_nonneg (show 0≤d-2*t by omega) (show 0≤d+2*t by omega);have e1:(d-2*s)*(d+2*s)=d*d-4*(s*s):=by grind
 have e2:(d-2*t)*(d+2*t)=d*d-4*(t*t):=by grind
 have q:0≤h*h+k*k:=by have:=ax h;have:=ax k;omega
 have s1:=ax s;have s2:=ax t;have a3:=Int.mul_nonneg (show 0≤d*d-s*s-t*t by omega) q;have e3:form 1 0 1 h k=h*h+k*k:=by unfold form;grind
 have e4:(s*h+t*k)*(s*h+t*k)=(s*s+t*t)*(h*h+k*k)-(s*k-t*h)*(s*k-t*h):=by grind
 have s3:=ax (s*k-t*h);have e5:(d*d-s*s-t*t)*(h*h+k*k)=d*d*(h*h+k*k)-(s*s+t*t)*(h*h+k*k):=by grind
 rw[e3,e4];omega
theorem tu (i:Iq) (_hk:i.Fits) (p q:Int) (hp : -1073741824≤p∧p≤1073741824 ∧ -1073741824≤q∧q≤1073741824) (h:i.hom p q 1≤i.N) {o:El} {e:Int} (ho:ellI i=(o,e)) :
  e≠3∧(e=0→o.has p q=true):=by
 unfold ellI at ho;split at ho
 ·injection ho with _ h2;subst h2;exact⟨by decide,fun h=>by cases h⟩
 ·rename_i h1;have hA:0<i.A:=by omega
  have hd:0<i.d:=by omega
  obtain⟨hl,hf⟩:=vQ i hA hd p q h;rw[if_neg (by omega)] at ho;refine⟨?_,?_⟩
  ·have:=rj (cf i.x i.d).1 (cf i.y i.d).1 (cD (i.lv*i.D) (i.d*i.d)).1 (db (-(i.lv*i.B)) (i.d*i.d)).1 (cD (i.lv*i.A) (i.d*i.d)).1 (max (max (max (max (max 0 (cf i.x i.d).2) (cf i.y i.d).2) (cD (i.lv*i.D) (i.d*i.d)).2) (cD (i.lv*i.A) (i.d*i.d)).2) (db (-(i.lv*i.B)) (i.d*i.d)).2);rw[ho] at this;simp only at this;omega
  ·rintro rfl;obtain⟨he,hg⟩:=oG ho;have f1:=gB ((2*i.x+i.d).fdiv (2*i.d));have f2:=gB ((2*i.y+i.d).fdiv (2*i.d));have f3:=gB (cdiv (i.lv*i.D) (i.d*i.d));have f4:=gB (cdiv (i.lv*i.A) (i.d*i.d));have f5:=gB ((-(i.lv*i.B)).fdiv (i.d*i.d));have g1:(cf i.x i.d).2=0:=by unfold cf cD db at *;omega
   have g2:(cf i.y i.d).2=0:=by unfold cf cD db at *;omega
   have g3:(cD (i.lv*i.D) (i.d*i.d)).2=0:=by unfold cf cD db at *;omega
   have g4:(cD (i.lv*i.A) (i.d*i.d)).2=0:=by unfold cf cD db at *;omega
   have g5:(db (-(i.lv*i.B)) (i.d*i.d)).2=0:=by unfold cf cD db at *;omega
   have v1:(cf i.x i.d).1=(2*i.x+i.d).fdiv (2*i.d):=jf g1;have v2:(cf i.y i.d).1=(2*i.y+i.d).fdiv (2*i.d):=jf g2;have v3:(cD (i.lv*i.D) (i.d*i.d)).1=cdiv (i.lv*i.D) (i.d*i.d):=jf g3;have v4:(cD (i.lv*i.A) (i.d*i.d)).1=cdiv (i.lv*i.A) (i.d*i.d):=jf g4;have v5:(db (-(i.lv*i.B)) (i.d*i.d)).1=(-(i.lv*i.B)).fdiv (i.d*i.d):=jf g5;rw[v1,v2,v3,v4,v5] at hg;obtain⟨-,-,-,⟨h0,-⟩|⟨-,hs⟩⟩:=mI hg
   ·cases h0
   have hs':=hs;obtain⟨hE,hB,rfl,hm⟩:=oN hs;have n1:=nT i.x i.d hd;have n2:=nT i.y i.d hd;obtain⟨cx,hcx⟩:∃ c,(2*i.x+i.d).fdiv (2*i.d)=c:=⟨_,rfl⟩;obtain⟨cy,hcy⟩:∃ c,(2*i.y+i.d).fdiv (2*i.d)=c:=⟨_,rfl⟩;rw[hcx] at n1 hE hm ⊢;rw[hcy] at n2 hE hm ⊢;have S0:0<i.d*i.d:=Int.mul_pos hd hd;refine(El.jb _ _ _).2 ⟨hm,hp,(sL _ _ _ _ _).2 fun a b=>?_⟩;have c1:=dH (i.lv*i.D) (i.d*i.d) S0;have c2:=dH (i.lv*i.A) (i.d*i.d) S0;have c3:=cI (-(i.lv*i.B)) (i.d*i.d) S0;have e3 : -(i.lv*i.B)=i.lv * -i.B:=by grind
   have pf:=jC (i.d*i.d) i.lv i.D (-i.B) i.A (cdiv (i.lv*i.D) (i.d*i.d)) ((-(i.lv*i.B)).fdiv (i.d*i.d)) (cdiv (i.lv*i.A) (i.d*i.d)) a b c1.1 c2.1 (by rw[← e3];exact c3.1) (by rw[← e3];exact c3.2);have hu0:=BP i.A i.B i.D (i.d*p-i.x) (i.d*q-i.y) a b hA hd
   have fn:0≤form i.D (-i.B) i.A a b:=by
    have hD:0<i.D:=by
     rcases Int.lt_or_le 0 i.D with h5|h5
     ·exact h5
     ·have h6:=Int.mul_nonneg (show 0≤i.A by omega) (show 0 ≤ -i.D by omega);have h7:=ax i.B;have h8:i.A * -i.D = -(i.A*i.D):=by grind
      have h9:0<i.A*i.D-i.B*i.B:=hd;omega
    refine mL _ _ _ _ _ hD ?_;have h9:0<i.A*i.D-i.B*i.B:=hd;have h10:i.D*i.A - -i.B * -i.B=i.A*i.D-i.B*i.B:=by grind
    omega
   have hu1:=Int.mul_le_mul_of_nonneg_right hf fn
   have hu2:i.d*(((i.d*p-i.x)*a+(i.d*q-i.y)*b)*((i.d*p-i.x)*a+(i.d*q-i.y)*b))≤i.d*(i.lv*form i.D (-i.B) i.A a b):=by
    have e4:i.d*i.lv*form i.D (-i.B) i.A a b=i.d*(i.lv*form i.D (-i.B) i.A a b):=by grind
    have e5:i.A*i.D-i.B*i.B=i.d:=rfl;rw[e5] at hu0;omega
   have hu3:=Int.le_of_mul_le_mul_left hu2 hd;have hv:=yw (i.x-i.d*cx) (i.y-i.d*cy) i.d a b hd n1.1 n1.2 n2.1 n2.2;have key:=ve _ _ hE hB a b ((i.d*p-i.x)*a+(i.d*q-i.y)*b) ((i.x-i.d*cx)*a+(i.y-i.d*cy)*b) (i.d*i.d) (by omega) (by show _≤i.d*i.d*form (cdiv (i.lv*i.D) (i.d*i.d)+1) ((-(i.lv*i.B)).fdiv (i.d*i.d)) (cdiv (i.lv*i.A) (i.d*i.d)+1) a b;omega) hv;have e6:((i.d*p-i.x)*a+(i.d*q-i.y)*b+((i.x-i.d*cx)*a+(i.y-i.d*cy)*b))*((i.d*p-i.x)*a+(i.d*q-i.y)*b+((i.x-i.d*cx)*a+(i.y-i.d*cy)*b))=i.d*i.d*(((p-cx)*a+(q-cy)*b)*((p-cx)*a+(q-cy)*b)):=by grind
   rw[e6] at key;have key2:=Int.le_of_mul_le_mul_left key S0;have e7:(dV ⟨cx,cy,cdiv (i.lv*i.D) (i.d*i.d)+1,(-(i.lv*i.B)).fdiv (i.d*i.d),cdiv (i.lv*i.A) (i.d*i.d)+1⟩ ⟨0,0,1*1,0,1*1⟩).x=cx:=by show cx+0=cx;omega
   have e8:(dV ⟨cx,cy,cdiv (i.lv*i.D) (i.d*i.d)+1,(-(i.lv*i.B)).fdiv (i.d*i.d),cdiv (i.lv*i.A) (i.d*i.d)+1⟩ ⟨0,0,1*1,0,1*1⟩).y=cy:=by show cy+0=cy;omega
   rw[e7,e8];exact key2
def fuseE (e f:El) (k:Int):El × Int:=bU (ofE e).1 (ofE f).1 k (max (ofE e).2 (ofE f).2)
def cutE (e:El) (s:St) (k:Int):El × Int:=bU (ofE e).1 (ofSt s).1 k (max (ofE e).2 (ofSt s).2)
theorem of_v (x y a b d:Int) (L:List WI) (e:Int) (hL:(ofE ⟨x,y,a,b,d⟩).1.ws=L) (he:(ofE ⟨x,y,a,b,d⟩).2=e) (w:World) :
  Calls Tryz.prog 111 #[elC x y a b d] w fun r w'=>r = .returned (.tuple #[.agg (blk L),.int .i64 e])∧Below w.heap.size w w':=by
 subst hL;subst he;exact yu ⟨x,y,a,b,d⟩ w
theorem DC (a b c d l h:Int) (L:List WI) (e:Int) (hL:(ofSt ⟨a,b,c,d,l,h⟩).1.ws=L) (he:(ofSt ⟨a,b,c,d,l,h⟩).2=e) (w:World) :
  Calls Tryz.prog 134 #[stC a b c d l h] w fun r w'=>r = .returned (.tuple #[.agg (blk L),.int .i64 e])∧Below w.heap.size w w':=by
 subst hL;subst he;exact vI ⟨a,b,c,d,l,h⟩ w
theorem pw (e:El):(ofE e).2=0∨(ofE e).2=1:=by unfold ofE;split;exact .inl rfl;exact .inr rfl
theorem x8 (s:St):(ofSt s).2=0∨(ofSt s).2=1:=by unfold ofSt;split;exact .inl rfl;exact .inr rfl
theorem D2 (x y a b d x' y' a' b' d' k:Int) (w:World) :
  Calls Tryz.prog 47 #[elC x y a b d,elC x' y' a' b' d',.int .i64 k] w fun r w'=>r = .returned (.tuple #[elV (fuseE ⟨x,y,a,b,d⟩ ⟨x',y',a',b',d'⟩ k).1,.int .i64 (fuseE ⟨x,y,a,b,d⟩ ⟨x',y',a',b',d'⟩ k).2])∧Below w.heap.size w w':=by
 obtain⟨LI,eI⟩:∃ l,(ofE ⟨x,y,a,b,d⟩).1.ws=l:=⟨_,rfl⟩;obtain⟨LJ,eJ⟩:∃ l,(ofE ⟨x',y',a',b',d'⟩).1.ws=l:=⟨_,rfl⟩;obtain⟨e1,h1⟩:∃ e,(ofE ⟨x,y,a,b,d⟩).2=e:=⟨_,rfl⟩;obtain⟨e2,h2⟩:∃ e,(ofE ⟨x',y',a',b',d'⟩).2=e:=⟨_,rfl⟩;have lI:LI.length=7:=by rw[← eI];rfl
 have lJ:LJ.length=7:=by rw[← eJ];rfl
 have H1:Hid (∀ w,Calls Tryz.prog 111 #[elC x y a b d] w fun r w'=>r = .returned (.tuple #[.agg (blk LI),.int .i64 e1])∧Below w.heap.size w w'):=of_v _ _ _ _ _ _ _ eI h1;have H2:Hid (∀ w,Calls Tryz.prog 111 #[elC x' y' a' b' d'] w fun r w'=>r = .returned (.tuple #[.agg (blk LJ),.int .i64 e2])∧Below w.heap.size w w'):=of_v _ _ _ _ _ _ _ eJ h2;obtain⟨⟨ox,oy,oa,ob,od⟩,f,ho⟩:∃ o f,fuseE ⟨x,y,a,b,d⟩ ⟨x',y',a',b',d'⟩ k=(o,f):=⟨_,_,rfl⟩
 have H3:Hid (∀ w,Calls Tryz.prog 112 #[.agg (blk LI),.agg (blk LJ),.int .i64 k,.int .i64 (max e1 e2)] w fun r w'=>r = .returned (.tuple #[elC ox oy oa ob od,.int .i64 f])∧Below w.heap.size w w'):=by
  intro w;have:=ug (ofE ⟨x,y,a,b,d⟩).1 (ofE ⟨x',y',a',b',d'⟩).1 ((el _).sml (by decide) (by decide)) ((el _).sml (by decide) (by decide)) k (max e1 e2) (rc _ _ k) w;have e:bU (ofE ⟨x,y,a,b,d⟩).1 (ofE ⟨x',y',a',b',d'⟩).1 k (max e1 e2)=(⟨ox,oy,oa,ob,od⟩,f):=by rw[← h1,← h2];exact ho
  rw[e] at this;rw[← eI,← eJ];exact this
 have EV:=Lh ho;clear ho eI eJ h1 h2;go_enter Tryz.func47,Tryz.ntmps47;go_wp2_with fail;refine(H1.out _).mono ?_;rintro e w1 ⟨rfl,hb1⟩;have z_w1:=hb1.size;(try simp at z_w1);have K_w1_0:=bq3 hb1 (w.heap.size);go_wp2_with fail;refine(H2.out _).mono ?_;rintro e w2 ⟨rfl,hb2⟩;have z_w2:=hb2.size;(try simp at z_w2);have K_w2_0:=bq3 hb2 (w.heap.size);have Kw2ba:=bq hb2 (w1.heap.size);go_wp2_with fail;refine(H3.out _).mono ?_;rintro e w3 ⟨rfl,hb3⟩;have z_w3:=hb3.size;(try simp at z_w3);have K_w3_0:=bq3 hb3 (w.heap.size);go_wp2_with fail;exact rT 5 #[.int .i64 ox,.int .i64 oy,.int .i64 oa,.int .i64 ob,.int .i64 od] (.int .i64 f) ⟨by rw[EV.out],ad⟩
theorem D0 (x y a b d x' y' a' b' d' k ox oy oa ob od f:Int) (h:fuseE ⟨x,y,a,b,d⟩ ⟨x',y',a',b',d'⟩ k=(⟨ox,oy,oa,ob,od⟩,f)) (w:World) :
  Calls Tryz.prog 47 #[elC x y a b d,elC x' y' a' b' d',.int .i64 k] w fun r w'=>r = .returned (.tuple #[elC ox oy oa ob od,.int .i64 f])∧Below w.heap.size w w':=by
 have:=D2 x y a b d x' y' a' b' d' k w;rw[h] at this;exact this
theorem FO (x y a b d p q r s l h k:Int) (w:World) :
  Calls Tryz.prog 91 #[elC x y a b d,stC p q r s l h,.int .i64 k] w fun e w'=>e = .returned (.tuple #[elV (cutE ⟨x,y,a,b,d⟩ ⟨p,q,r,s,l,h⟩ k).1,.int .i64 (cutE ⟨x,y,a,b,d⟩ ⟨p,q,r,s,l,h⟩ k).2])∧Below w.heap.size w w':=by
 obtain⟨LI,eI⟩:∃ l,(ofE ⟨x,y,a,b,d⟩).1.ws=l:=⟨_,rfl⟩;obtain⟨LJ,eJ⟩:∃ L,(ofSt ⟨p,q,r,s,l,h⟩).1.ws=L:=⟨_,rfl⟩;obtain⟨e1,h1⟩:∃ e,(ofE ⟨x,y,a,b,d⟩).2=e:=⟨_,rfl⟩;obtain⟨e2,h2⟩:∃ e,(ofSt ⟨p,q,r,s,l,h⟩).2=e:=⟨_,rfl⟩;have lI:LI.length=7:=by rw[← eI];rfl
 have lJ:LJ.length=7:=by rw[← eJ];rfl
 have H1:Hid (∀ w,Calls Tryz.prog 111 #[elC x y a b d] w fun r w'=>r = .returned (.tuple #[.agg (blk LI),.int .i64 e1])∧Below w.heap.size w w'):=of_v _ _ _ _ _ _ _ eI h1;have H2:Hid (∀ w,Calls Tryz.prog 134 #[stC p q r s l h] w fun r w'=>r = .returned (.tuple #[.agg (blk LJ),.int .i64 e2])∧Below w.heap.size w w'):=DC _ _ _ _ _ _ _ _ eJ h2;obtain⟨⟨ox,oy,oa,ob,od⟩,f,ho⟩:∃ o f,cutE ⟨x,y,a,b,d⟩ ⟨p,q,r,s,l,h⟩ k=(o,f):=⟨_,_,rfl⟩
 have H3:Hid (∀ w,Calls Tryz.prog 112 #[.agg (blk LI),.agg (blk LJ),.int .i64 k,.int .i64 (max e1 e2)] w fun r w'=>r = .returned (.tuple #[elC ox oy oa ob od,.int .i64 f])∧Below w.heap.size w w'):=by
  intro w;have:=ug (ofE ⟨x,y,a,b,d⟩).1 (ofSt ⟨p,q,r,s,l,h⟩).1 ((el _).sml (by decide) (by decide)) ((mo _).sml (by decide) (by decide)) k (max e1 e2) (uK _ _ k) w;have e:bU (ofE ⟨x,y,a,b,d⟩).1 (ofSt ⟨p,q,r,s,l,h⟩).1 k (max e1 e2)=(⟨ox,oy,oa,ob,od⟩,f):=by rw[← h1,← h2];exact ho
  rw[e] at this;rw[← eI,← eJ];exact this
 have EV:=Lh ho;clear ho eI eJ h1 h2;go_enter Tryz.func91,Tryz.ntmps91;go_wp2_with fail;refine(H1.out _).mono ?_;rintro e w1 ⟨rfl,hb1⟩;have z_w1:=hb1.size;(try simp at z_w1);have K_w1_0:=bq3 hb1 (w.heap.size);go_wp2_with fail;refine(H2.out _).mono ?_;rintro e w2 ⟨rfl,hb2⟩;have z_w2:=hb2.size;(try simp at z_w2);have K_w2_0:=bq3 hb2 (w.heap.size);have Kw2ba:=bq hb2 (w1.heap.size);go_wp2_with fail;refine(H3.out _).mono ?_;rintro e w3 ⟨rfl,hb3⟩;have z_w3:=hb3.size;(try simp at z_w3);have K_w3_0:=bq3 hb3 (w.heap.size);go_wp2_with fail;exact rT 5 #[.int .i64 ox,.int .i64 oy,.int .i64 oa,.int .i64 ob,.int .i64 od] (.int .i64 f) ⟨by rw[EV.out],ad⟩
theorem FM (x y a b d p q r s l h k ox oy oa ob od f:Int) (ho:cutE ⟨x,y,a,b,d⟩ ⟨p,q,r,s,l,h⟩ k=(⟨ox,oy,oa,ob,od⟩,f)) (w:World) :
  Calls Tryz.prog 91 #[elC x y a b d,stC p q r s l h,.int .i64 k] w fun r w'=>r = .returned (.tuple #[elC ox oy oa ob od,.int .i64 f])∧Below w.heap.size w w':=by
 have:=FO x y a b d p q r s l h k w;rw[ho] at this;exact this
theorem kV (e:El) (h:e.may=true):ofE e=(ofEl e,0):=by unfold ofE;rw [if_pos h]
theorem vY (e f:El) (k:Int) (he:e.may=true) (hf:f.may=true) (h0:0≤k) (h1:k≤34):fuseE e f k=ellI (mixI (ofEl e) (ofEl f) k):=by
 unfold fuseE bU;rw[kV e he,kV f hf];show(if max (0:Int) 0=0 then (if (mixQ (ofEl e) (ofEl f) k).2=0 then _ else _) else _)=_;have:mixQ (ofEl e) (ofEl f) k=(mixI (ofEl e) (ofEl f) k,0):=by unfold mixQ;rw[if_pos ⟨h0,h1⟩]
 rw[this];rfl
/-! ### What is in both is in what is fused -/
theorem DU (e:El) (p q:Int):(ofEl e).hom p q 1=form e.d (-e.b) e.a (p-e.x) (q-e.y):=by
 rw[mG,Int.mul_one,Int.mul_one]
theorem uq (e:El) (p q:Int) (h:e.has p q=true):(ofEl e).hom p q 1≤(ofEl e).N:=by
 have h1:=((El.jb e p q).1 h).2.2;unfold gj at h1;have h2:=((ga _ _ _).1 h1).2.2;rw[DU];show _≤e.a*e.d-e.b*e.b;have e1:form e.d (-e.b) e.a (p-e.x) (q-e.y)=(e.a*e.d-e.b*e.b)-((e.a-(p-e.x)*(p-e.x))*(e.d-(q-e.y)*(q-e.y))-(e.b-(p-e.x)*(q-e.y))*(e.b-(p-e.x)*(q-e.y))):=by unfold form;grind
 omega
theorem sG (i j:Iq) (k p q:Int) (h0:0≤k) (h1:k≤34) (hi:0<i.N) (hj:0<j.N) (a:i.hom p q 1≤i.N) (b:j.hom p q 1≤j.N):(mixI i j k).hom p q 1≤(mixI i j k).N:=by
 rw[uo];show _≤34*(i.N*j.N);have a1:=Int.mul_le_mul_of_nonneg_left a (Int.mul_nonneg h0 (show 0≤j.N by omega));have a2:=Int.mul_le_mul_of_nonneg_left b (Int.mul_nonneg (show 0≤34-k by omega) (show 0≤i.N by omega));have e:34*(i.N*j.N)=k*j.N*i.N+(34-k)*i.N*j.N:=by grind
 omega
theorem mK (e f:El) (k p q:Int) (h0:0≤k) (h1:k≤34) (he:e.has p q=true) (hf:f.has p q=true) {o:El} {er:Int} (ho:fuseE e f k=(o,er)):er≠3∧(er=0→o.has p q=true):=by
 have me:=(El.jb _ _ _).1 he;have mf:=(El.jb _ _ _).1 hf;rw[vY e f k me.1 mf.1 h0 h1] at ho;have fits:=vX e f k;have:(mixQ (ofE e).1 (ofE f).1 k).1=mixI (ofEl e) (ofEl f) k:=by rw[kV e me.1,kV f mf.1];unfold mixQ;rw[if_pos ⟨h0,h1⟩]
 rw[this] at fits;exact tu _ fits p q me.2.1 (sG _ _ k p q h0 h1 (mv e me.1).2.2.2 (mv f mf.1).2.2.2 (uq e p q he) (uq f p q hf)) ho
/-! ### Far from each other: nothing -/
/-! ### Shifted -/
def El.sh (e:El) (u v:Int):El:=⟨e.x+u,e.y+v,e.a,e.b,e.d⟩
def Iq.sh (i:Iq) (u v:Int):Iq:=⟨i.A,i.B,i.D,i.U+(i.A*u+i.B*v),i.V+(i.B*u+i.D*v),i.Z+(2*(i.U*u+i.V*v)+form i.A i.B i.D u v),i.N⟩
/-! ### Two balls -/
end Go.Proofs.YtnoidlacjiafdaaGreat
