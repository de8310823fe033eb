/- The walk of TopRumour. -/
import Derived.Test.YtechbdnhalmobaaGreatDoorR1
import Derived.BigQuiet
import Derived.Lib.QuietBelow
set_option maxRecDepth 100000
set_option maxHeartbeats 16000000
namespace Go.Proofs.YtechbdnhalmobaaGreatDoor
set_option linter.unusedSimpArgs false
set_option linter.unusedVariables false
open Go.RowKit
def IntsIn (w:World) (A:Option Addr) (len:Nat) (T:Nat→Int):Prop :=
 ∀ i:Nat,i<len→∃ b o,A=some ⟨b,o,none⟩∧b<w.heap.size∧w.cell? ⟨b,o+i,none⟩=some (.int .i64 (T i))
theorem rem_rng (n m:Int) (h0:0<m) (h1:m≤1000000):0≤wrap64 ((IntKind.u64.wrap n).tmod m)∧wrap64 ((IntKind.u64.wrap n).tmod m)<m:=by
 have h2:0≤IntKind.u64.wrap n:=by rw [IntKind.wrap_u64];omega
 have h3:=Int.tmod_nonneg m h2
 have h4:=Int.tmod_lt_of_pos (IntKind.u64.wrap n) h0
 obtain ⟨z,hz⟩:∃ z,(IntKind.u64.wrap n).tmod m=z:=⟨_,rfl⟩
 rw [hz] at h3 h4 ⊢
 unfold wrap64
 omega
theorem Rum.start {e t:El} {p q a b v s:Int} (he:e.has p q=true) (ha:atE e a b v s=(t,0)):Rum e p q t:=by
 have hm:=((El.has_iff _ _ _).1 he).1
 exact Rum.at ⟨hm,Leq.refl e,rfl,rfl,he⟩ ha
theorem topRumour_c (x y a b d p q:Int) (A:Option Addr) (len cap:Nat) (T:Nat→Int) (sp:Int) (w:World) (hT:IntsIn w A len T) (hlen:len≤9223372036854775807)
  (HAW:∀ w1,Below w.heap.size w w1→Calls Tryz.prog 7 #[] w1 fun e w'=>e = .returned (.bool true)∧Below w1.heap.size w1 w') :
  Calls Tryz.prog 4 #[elC x y a b d,ptV p q,.slice A len cap,.int .i64 sp] w fun e w'=>e = .returned (.bool true)∧Below w.heap.size w w':=by
 have HT:=Lib.hid hT
 have HA:=Lib.hid HAW
 clear hT HAW
 cases hp:El.has ⟨x,y,a,b,d⟩ p q with
 | false =>
  have HP:=Lib.hid hp
  clear hp
  go_enter Tryz.func4,Tryz.ntmps4
  go_wp2_with fail
  refine (ellin_v _ _ _ _ _ _ _ _ HP.out _).mono ?_;rintro e w1 ⟨rfl,hb1⟩;have s1:=hb1.size;(try simp at s1)
  go_wp2_with fail
  refine (HA.out _ below_byR).mono ?_;rintro e w2 ⟨rfl,hb2⟩
  go_wp2
  go_ret
  exact ⟨rfl,below_byR⟩
 | true =>
  have HP:=Lib.hid hp
  obtain ⟨V,hV⟩:∃ K,wrap64 ((IntKind.u64.wrap sp).tmod 100)=K:=⟨_,rfl⟩
  have V0:0≤V∧V<100:=by rw [← hV];exact rem_rng sp 100 (by decide) (by decide)
  obtain ⟨V1,V2⟩:=V0
  obtain ⟨⟨tx,ty,ta,tb,td⟩,k0,hg0⟩:∃ o r,atE ⟨x,y,a,b,d⟩ 10 10 V 1=(o,r):=⟨_,_,rfl⟩
  have HG0:=Lib.hid hg0
  clear hp
  go_enter Tryz.func4,Tryz.ntmps4
  go_wp2_with fail
  refine (ellin_v _ _ _ _ _ _ _ _ HP.out _).mono ?_;rintro e w1 ⟨rfl,hb1⟩;have z_w1:=hb1.size;(try simp at z_w1);obtain ⟨yw1aa,cw1aa,fw1aa,rw1aa,tw1aa,pw1aa⟩:=bq hb1 (w.heap.size);obtain ⟨yw1ab,cw1ab,fw1ab,rw1ab,tw1ab,pw1ab⟩:=bq hb1 (w.heap.size+1)
  have BE:Hid (Blk w1 w.heap.size #[.int .i64 x,.int .i64 y,.int .i64 a,.int .i64 b,.int .i64 d] 35):=((Blk.new _ _ _).alloc _).keep hb1
  have BP:Hid (Blk w1 (w.heap.size+1) #[.int .i64 p,.int .i64 q] 31):=(Blk.new' _ _ _ (by simp)).keep hb1
  have HB:Hid (Below w.heap.size w w1):=(show Below _ _ _ from below_byR)
  go_wp2_with fail
  try simp only [hV]
  refine (at_v _ _ _ _ _ _ _ _ _ _ _ _ _ _ _ HG0.out _).mono ?_;rintro e w2 ⟨rfl,hb2⟩
  replace BE:=Lib.hid (BE.out.keep hb2)
  replace BP:=Lib.hid (BP.out.keep hb2)
  replace HB:=Lib.hid (HB.out.trans (hb2.mono HB.out.size))
  clear z_w1 yw1aa cw1aa fw1aa rw1aa tw1aa pw1aa yw1ab cw1ab fw1ab rw1ab tw1ab pw1ab
  clear hb1 hb2 hg0
  have s2:=BP.out.lt
  by_cases hk0:k0=0
  case neg =>
   go_wp2_with fail
   refine (HA.out _ below_byR).mono ?_;rintro e w3 ⟨rfl,hb3⟩
   go_wp2
   go_ret
   exact ⟨rfl,below_byR⟩
  subst hk0
  have R0:=Lib.hid (Rum.start HP.out HG0.out)
  have hz2:=HB.out.size
  go_wp2_with fail
  refine name_wp ?_;intro u hu
  have BT:Hid (Blk u w2.heap.size #[.int .i64 tx,.int .i64 ty,.int .i64 ta,.int .i64 tb,.int .i64 td] 35):=by rw [hu];exact Blk.new _ _ _
  have BE3:Hid (Blk u w.heap.size #[.int .i64 x,.int .i64 y,.int .i64 a,.int .i64 b,.int .i64 d] 35):=by rw [hu];have XX:=BE.out;show Blk _ _ _ _;exact (by repeat (first|with_reducible assumption|with_reducible exact Blk.new _ _ _|with_reducible refine Blk.alloc ?_ _|with_reducible refine Blk.drew ?_|(with_reducible refine Blk.setCell_other ?_ ?hB _;case hB=>(first|omega|(simp;done)|(simp;omega)))|with_reducible refine Blk.setCell_same ?_ _ _|with_reducible refine Blk.keep ?_ (by assumption)))
  have BP3:Hid (Blk u (w.heap.size+1) #[.int .i64 p,.int .i64 q] 31):=by rw [hu];have XX:=BP.out;show Blk _ _ _ _;exact (by repeat (first|with_reducible assumption|with_reducible exact Blk.new _ _ _|with_reducible refine Blk.alloc ?_ _|with_reducible refine Blk.drew ?_|(with_reducible refine Blk.setCell_other ?_ ?hB _;case hB=>(first|omega|(simp;done)|(simp;omega)))|with_reducible refine Blk.setCell_same ?_ _ _|with_reducible refine Blk.keep ?_ (by assumption)))
  have HB3:Hid (Below w.heap.size w u):=by rw [hu];have XX:=HB.out;show Below _ _ _;exact below_byR
  obtain ⟨tk,htk⟩:∃ tk,w2.heap.size=tk:=⟨_,rfl⟩
  rw [htk] at BT
  have hwt:w.heap.size+1<tk:=by omega
  have hut:tk<u.heap.size:=BT.out.lt
  clear hu BE BP HB s2 hz2
  try simp only [htk]
  clear htk
  go_wp2_with fail
  go_loopw [9,46] (fun t9 t46 wr=>∃ (j:Nat) (now:Int) (t:El),j≤len∧j≤30∧t46 = .int .i64 j∧t9 = .int .i64 now∧10≤now∧now≤10+4*j∧Hid (Rum ⟨x,y,a,b,d⟩ p q t)∧Hid (Blk wr w.heap.size #[.int .i64 x,.int .i64 y,.int .i64 a,.int .i64 b,.int .i64 d] 35)∧Hid (Blk wr (w.heap.size+1) #[.int .i64 p,.int .i64 q] 31)∧Hid (Blk wr tk #[.int .i64 t.x,.int .i64 t.y,.int .i64 t.a,.int .i64 t.b,.int .i64 t.d] 35)∧Hid (Below w.heap.size w wr)) (fun _ t46 _=>len-(intOf t46).toNat)
  case atStart=>exact ⟨0,10,⟨tx,ty,ta,tb,td⟩,by omega,by omega,rfl,rfl,by omega,by omega,R0,BE3,BP3,BT,HB3⟩
  case round =>
   obtain ⟨j,now,⟨ux,uy,ua,ub,ud⟩,hj,hj30,rfl,rfl,hn1,hn2,HR,BE4,BP4,BT4,HB4⟩:=hrel
   simp only at BT4
   clear BE3 BP3 BT HB3 R0 HG0
   by_cases hlt:j<len
   ·obtain ⟨mb,mo,rfl,hmb,hc1⟩:=HT.out j hlt
    obtain ⟨h,hh⟩:∃ z,T j=z:=⟨_,rfl⟩
    rw [hh] at hc1
    have mc1:wr.cell? ⟨mb,mo+j,none⟩=some (.int .i64 h):=(HB4.out.cell (p:=⟨mb,mo+j,none⟩) hmb).trans hc1
    clear hc1 hh
    have k1:(j:Int)<len:=by omega
    have k2:(0:Int)≤j:=by omega
    have hsz:=HB4.out.size
    by_cases h30:j<30
    ·have k3:¬ (30:Int)≤j:=by omega
     obtain ⟨N,hN⟩:∃ N,wrap64 ((IntKind.u64.wrap h).tmod 5)=N:=⟨_,rfl⟩
     have N0:0≤N∧N<5:=by rw [← hN];exact rem_rng h 5 (by decide) (by decide)
     obtain ⟨NX,hNX⟩:∃ z,now+N=z:=⟨_,rfl⟩
     obtain ⟨M,hM⟩:∃ z,N.tdiv 2=z:=⟨_,rfl⟩
     have M0:0≤M∧M≤2:=by rw [Int.tdiv_eq_ediv_of_nonneg N0.1] at hM;omega
     obtain ⟨MD,hMD⟩:∃ z,now+M=z:=⟨_,rfl⟩
     have e1:Hid (wrap64 (now+N)=NX):=by show _=_;unfold wrap64;omega
     have e1':Hid (IntKind.i64.wrap (now+N)=NX):=by show _=_;rw [hNX];exact IntWalk.i64_in _ (by omega)
     have e2:Hid (IntKind.i64.wrap (NX-now)=N):=by show _=_;rw [show NX-now=N by omega];exact IntWalk.i64_in _ (by omega)
     have e3:Hid (IntKind.i64.wrap M=M):=IntWalk.i64_in _ (by omega)
     have e4:Hid (IntKind.i64.wrap (now+M)=MD):=by show _=_;rw [hMD];exact IntWalk.i64_in _ (by omega)
     have HN:=Lib.hid hN
     have HM:=Lib.hid hM
     obtain ⟨⟨o1,o2,o3,o4,o5⟩,r1,g1⟩:∃ o r,atE ⟨ux,uy,ua,ub,ud⟩ now NX V 1=(o,r):=⟨_,_,rfl⟩
     obtain ⟨⟨i1,i2,i3,i4,i5⟩,r2,g2⟩:∃ o r,atE ⟨ux,uy,ua,ub,ud⟩ now MD V 1=(o,r):=⟨_,_,rfl⟩
     obtain ⟨⟨l1,l2,l3,l4,l5⟩,r3,g3⟩:∃ o r,atE ⟨i1,i2,i3,i4,i5⟩ MD NX V 1=(o,r):=⟨_,_,rfl⟩
     have G1:=Lib.hid g1
     have G2:=Lib.hid g2
     have G3:=Lib.hid g3
     have hnx:NX≤10+4*((j:Int)+1):=by omega
     have hnx2:10≤NX:=by omega
     clear hN hM g1 g2 g3 hNX hMD N0 M0
     by_cases hr:r1=0∧r2=0∧r3=0
     ·obtain ⟨rfl,rfl,rfl⟩:=hr
      obtain ⟨⟨m1,m2,m3,m4,m5⟩,hmg,hRm,hmh,hmt⟩:=Rum.merge ((El.has_iff _ _ _).1 HP.out).1 (Rum.at HR.out G1.out) (Rum.at (Rum.at HR.out G2.out) G3.out)
      have MG:=Lib.hid hmg
      have MR:=Lib.hid hRm
      have MH:=Lib.hid hmh
      obtain ⟨tm,htm⟩:∃ z,El.tr ⟨m1,m2,m3,m4,m5⟩=z:=⟨_,rfl⟩
      obtain ⟨te,hte⟩:∃ z,El.tr ⟨x,y,a,b,d⟩=z:=⟨_,rfl⟩
      rw [htm,hte] at hmt
      have TM:=Lib.hid htm
      have TE:=Lib.hid hte
      have hmt':¬ tm<te:=by omega
      clear hmg hRm hmh htm hte hmt
      obtain ⟨y1,c1,f1,-⟩:=bk_o BE4.out
      obtain ⟨y2,c2,f2,-⟩:=bk_o BP4.out
      obtain ⟨y3,c3,f3,-⟩:=bk_o BT4.out
      have rw3:=BT4.out.row?_all 5 rfl
      go_wp2_with fail
      try simp only [HN.out,e1.out,e1'.out]
      refine (at_v _ _ _ _ _ _ _ _ _ _ _ _ _ _ _ G1.out _).mono ?_;rintro e w3 ⟨rfl,hb3⟩;have z_w3:=hb3.size;(try simp at z_w3);obtain ⟨yw3aa,cw3aa,fw3aa,rw3aa,tw3aa,pw3aa⟩:=bq hb3 (w.heap.size);obtain ⟨yw3ab,cw3ab,fw3ab,rw3ab,tw3ab,pw3ab⟩:=bq hb3 (w.heap.size+1);obtain ⟨y_w3_tk,c_w3_tk,f_w3_tk,r_w3_tk,t_w3_tk,p_w3_tk⟩:=bq hb3 (tk)
      have e2':=e2.out
      have e3':=e3.out
      have e4':=e4.out
      have hm':=HM.out
      go_wp2_with fail
      refine (at_v _ _ _ _ _ _ _ _ _ _ _ _ _ _ _ G2.out _).mono ?_;rintro e w4 ⟨rfl,hb4⟩;have z_w4:=hb4.size;(try simp at z_w4);obtain ⟨yw4aa,cw4aa,fw4aa,rw4aa,tw4aa,pw4aa⟩:=bq hb4 (w.heap.size);obtain ⟨yw4ab,cw4ab,fw4ab,rw4ab,tw4ab,pw4ab⟩:=bq hb4 (w.heap.size+1);obtain ⟨y_w4_tk,c_w4_tk,f_w4_tk,r_w4_tk,t_w4_tk,p_w4_tk⟩:=bq hb4 (tk);obtain ⟨yw4ca,cw4ca,fw4ca,rw4ca,tw4ca,pw4ca⟩:=bq hb4 (w3.heap.size)
      clear e2' e3' e4' hm'
      go_wp2_with fail
      refine (at_v _ _ _ _ _ _ _ _ _ _ _ _ _ _ _ G3.out _).mono ?_;rintro e w5 ⟨rfl,hb5⟩;have z_w5:=hb5.size;(try simp at z_w5);obtain ⟨yw5aa,cw5aa,fw5aa,rw5aa,tw5aa,pw5aa⟩:=bq hb5 (w.heap.size);obtain ⟨yw5ab,cw5ab,fw5ab,rw5ab,tw5ab,pw5ab⟩:=bq hb5 (w.heap.size+1);obtain ⟨y_w5_tk,c_w5_tk,f_w5_tk,r_w5_tk,t_w5_tk,p_w5_tk⟩:=bq hb5 (tk);obtain ⟨yw5ca,cw5ca,fw5ca,rw5ca,tw5ca,pw5ca⟩:=bq hb5 (w3.heap.size);obtain ⟨yw5da,cw5da,fw5da,rw5da,tw5da,pw5da⟩:=bq hb5 (w4.heap.size)
      go_wp2_with fail
      refine (merge_v _ _ _ _ _ _ _ _ _ _ _ _ _ _ _ _ MG.out _).mono ?_;rintro e w6 ⟨rfl,hb6⟩;have z_w6:=hb6.size;(try simp at z_w6);obtain ⟨yw6aa,cw6aa,fw6aa,rw6aa,tw6aa,pw6aa⟩:=bq hb6 (w.heap.size);obtain ⟨yw6ab,cw6ab,fw6ab,rw6ab,tw6ab,pw6ab⟩:=bq hb6 (w.heap.size+1);obtain ⟨y_w6_tk,c_w6_tk,f_w6_tk,r_w6_tk,t_w6_tk,p_w6_tk⟩:=bq hb6 (tk);obtain ⟨yw6ca,cw6ca,fw6ca,rw6ca,tw6ca,pw6ca⟩:=bq hb6 (w3.heap.size);obtain ⟨yw6da,cw6da,fw6da,rw6da,tw6da,pw6da⟩:=bq hb6 (w4.heap.size);obtain ⟨yw6ea,cw6ea,fw6ea,rw6ea,tw6ea,pw6ea⟩:=bq hb6 (w5.heap.size)
      go_wp2_with fail
      refine name_wp ?_;intro v hv
      have HM5:Hid (Blk v w6.heap.size #[.int .i64 m1,.int .i64 m2,.int .i64 m3,.int .i64 m4,.int .i64 m5] 35):=by rw [hv];exact Blk.new _ _ _
      have BE5:Hid (Blk v w.heap.size #[.int .i64 x,.int .i64 y,.int .i64 a,.int .i64 b,.int .i64 d] 35):=by rw [hv];have XX:=BE4.out;show Blk _ _ _ _;exact (by repeat (first|with_reducible assumption|with_reducible exact Blk.new _ _ _|with_reducible refine Blk.alloc ?_ _|with_reducible refine Blk.drew ?_|(with_reducible refine Blk.setCell_other ?_ ?hB _;case hB=>(first|omega|(simp;done)|(simp;omega)))|with_reducible refine Blk.setCell_same ?_ _ _|with_reducible refine Blk.keep ?_ (by assumption)))
      have BP5:Hid (Blk v (w.heap.size+1) #[.int .i64 p,.int .i64 q] 31):=by rw [hv];have XX:=BP4.out;show Blk _ _ _ _;exact (by repeat (first|with_reducible assumption|with_reducible exact Blk.new _ _ _|with_reducible refine Blk.alloc ?_ _|with_reducible refine Blk.drew ?_|(with_reducible refine Blk.setCell_other ?_ ?hB _;case hB=>(first|omega|(simp;done)|(simp;omega)))|with_reducible refine Blk.setCell_same ?_ _ _|with_reducible refine Blk.keep ?_ (by assumption)))
      have BT5:Hid (Blk v tk #[.int .i64 ux,.int .i64 uy,.int .i64 ua,.int .i64 ub,.int .i64 ud] 35):=by rw [hv];have XX:=BT4.out;show Blk _ _ _ _;exact (by repeat (first|with_reducible assumption|with_reducible exact Blk.new _ _ _|with_reducible refine Blk.alloc ?_ _|with_reducible refine Blk.drew ?_|(with_reducible refine Blk.setCell_other ?_ ?hB _;case hB=>(first|omega|(simp;done)|(simp;omega)))|with_reducible refine Blk.setCell_same ?_ _ _|with_reducible refine Blk.keep ?_ (by assumption)))
      have HB5:Hid (Below w.heap.size w v):=by rw [hv];have XX:=HB4.out;show Below _ _ _;exact below_byR
      obtain ⟨mk,hmk⟩:∃ z,w6.heap.size=z:=⟨_,rfl⟩
      rw [hmk] at HM5
      have hmk1:¬ mk=tk:=by omega
      have hmk2:¬ tk=mk:=by omega
      have hmk3:¬ mk=w.heap.size:=by omega
      have hmk4:¬ mk=w.heap.size+1:=by omega
      try simp only [hmk]
      clear hv hmk
      clear z_w3 yw3aa cw3aa fw3aa rw3aa tw3aa pw3aa yw3ab cw3ab fw3ab rw3ab tw3ab pw3ab y_w3_tk c_w3_tk f_w3_tk r_w3_tk t_w3_tk p_w3_tk
      clear z_w4 yw4aa cw4aa fw4aa rw4aa tw4aa pw4aa yw4ab cw4ab fw4ab rw4ab tw4ab pw4ab y_w4_tk c_w4_tk f_w4_tk r_w4_tk t_w4_tk p_w4_tk yw4ca cw4ca fw4ca rw4ca tw4ca pw4ca
      clear z_w5 yw5aa cw5aa fw5aa rw5aa tw5aa pw5aa yw5ab cw5ab fw5ab rw5ab tw5ab pw5ab y_w5_tk c_w5_tk f_w5_tk r_w5_tk t_w5_tk p_w5_tk yw5ca cw5ca fw5ca rw5ca tw5ca pw5ca yw5da cw5da fw5da rw5da tw5da pw5da
      clear z_w6 yw6aa cw6aa fw6aa rw6aa tw6aa pw6aa yw6ab cw6ab fw6ab rw6ab tw6ab pw6ab y_w6_tk c_w6_tk f_w6_tk r_w6_tk t_w6_tk p_w6_tk yw6ca cw6ca fw6ca rw6ca tw6ca pw6ca yw6da cw6da fw6da rw6da tw6da pw6da yw6ea cw6ea fw6ea rw6ea tw6ea pw6ea
      clear hb3 hb4 hb5 hb6 y1 c1 f1 y2 c2 f2 y3 c3 f3 rw3 BE4 BP4 BT4 HB4
      have a0:=cell_regrown (HM5.out.cell (i:=0) (v := .int .i64 m1) rfl)
      have a1:=cell_regrown (HM5.out.cell (i:=1) (v := .int .i64 m2) rfl)
      have a2:=cell_regrown (HM5.out.cell (i:=2) (v := .int .i64 m3) rfl)
      have a3:=cell_regrown (HM5.out.cell (i:=3) (v := .int .i64 m4) rfl)
      have a4:=cell_regrown (HM5.out.cell (i:=4) (v := .int .i64 m5) rfl)
      have b0:=cell_regrown (BE5.out.cell (i:=0) (v := .int .i64 x) rfl)
      have b1:=cell_regrown (BE5.out.cell (i:=1) (v := .int .i64 y) rfl)
      have b2:=cell_regrown (BE5.out.cell (i:=2) (v := .int .i64 a) rfl)
      have b3:=cell_regrown (BE5.out.cell (i:=3) (v := .int .i64 b) rfl)
      have b4:=cell_regrown (BE5.out.cell (i:=4) (v := .int .i64 d) rfl)
      have d0:=cell_regrown (BP5.out.cell (i:=0) (v := .int .i64 p) rfl)
      have d1:=cell_regrown (BP5.out.cell (i:=1) (v := .int .i64 q) rfl)
      refine wp_region_quiet_below (by kernel_rfl) (by kernel_rfl) ?_
      repeat (go_big_quiet_step (first
       | (go_at_call 15;exact Calls.regrown_of (by first|with_reducible exact ellin_v _ _ _ _ _ _ _ _ MH.out _))
       | (go_at_call 13;exact Calls.regrown_of (by first|with_reducible exact trace_v _ _ _ _ _ _ TM.out _|with_reducible exact trace_v _ _ _ _ _ _ TE.out _))))
      refine wpQuiet_nil ?_
      intro wq hwq
      have hbq:=below_of_regrown hwq
      clear hwq a0 a1 a2 a3 a4 b0 b1 b2 b3 b4 d0 d1
      have BT6:=BT5.out.keep hbq
      have HM6:=HM5.out.keep hbq
      obtain ⟨y3,c3,f3,-⟩:=bk_o BT6
      obtain ⟨y4,c4,f4,-⟩:=bk_o HM6
      have rw4:=HM6.row?_all 5 rfl
      have HX:=Lib.hid BT6
      clear BT6 HM6
      go_wp2_with fail
      go_roundw
      case rel =>
       refine ⟨j+1,NX,⟨m1,m2,m3,m4,m5⟩,by omega,by omega,by go_num,rfl,hnx2,by omega,MR,?_,?_,?_,?_⟩
       ·show Blk _ _ _ _;have XX:=BE5.out.keep hbq;exact (by repeat (first|with_reducible assumption|with_reducible exact Blk.new _ _ _|with_reducible refine Blk.alloc ?_ _|with_reducible refine Blk.drew ?_|(with_reducible refine Blk.setCell_other ?_ ?hB _;case hB=>(first|omega|(simp;done)|(simp;omega)))|with_reducible refine Blk.setCell_same ?_ _ _|with_reducible refine Blk.keep ?_ (by assumption)))
       ·show Blk _ _ _ _;have XX:=BP5.out.keep hbq;exact (by repeat (first|with_reducible assumption|with_reducible exact Blk.new _ _ _|with_reducible refine Blk.alloc ?_ _|with_reducible refine Blk.drew ?_|(with_reducible refine Blk.setCell_other ?_ ?hB _;case hB=>(first|omega|(simp;done)|(simp;omega)))|with_reducible refine Blk.setCell_same ?_ _ _|with_reducible refine Blk.keep ?_ (by assumption)))
       ·show Blk _ _ _ _;have XX:=HX.out;exact (by apply Blk.of_eq;(focus (repeat (first|with_reducible exact XX|with_reducible apply Blk.drew|with_reducible apply blk_drewN|with_reducible apply Blk.alloc|with_reducible apply Blk.setCell_same)));first|rfl|(simp;done))
       ·show Below _ _ _;have XX:=HB5.out.trans (hbq.mono HB5.out.size);have:=XX.size;exact below_byR
      case measure=>simp [intOf];omega
     ·have hr':¬ r1=0∨(r1=0∧¬ r2=0)∨(r1=0∧r2=0∧¬ r3=0):=by omega
      clear hr
      rcases hr' with hr1|⟨rfl,hr2⟩|⟨rfl,rfl,hr3⟩
      ·obtain ⟨y1,c1,f1,-⟩:=bk_o BE4.out
       obtain ⟨y2,c2,f2,-⟩:=bk_o BP4.out
       obtain ⟨y3,c3,f3,-⟩:=bk_o BT4.out
       have rw3:=BT4.out.row?_all 5 rfl
       go_wp2_with fail
       try simp only [HN.out,e1.out,e1'.out]
       refine (at_v _ _ _ _ _ _ _ _ _ _ _ _ _ _ _ G1.out _).mono ?_;rintro e w3 ⟨rfl,hb3⟩;have z_w3:=hb3.size;(try simp at z_w3);obtain ⟨yw3aa,cw3aa,fw3aa,rw3aa,tw3aa,pw3aa⟩:=bq hb3 (w.heap.size);obtain ⟨yw3ab,cw3ab,fw3ab,rw3ab,tw3ab,pw3ab⟩:=bq hb3 (w.heap.size+1);obtain ⟨y_w3_tk,c_w3_tk,f_w3_tk,r_w3_tk,t_w3_tk,p_w3_tk⟩:=bq hb3 (tk)
       have e2':=e2.out
       have e3':=e3.out
       have e4':=e4.out
       have hm':=HM.out
       go_wp2_with fail
       refine (at_v _ _ _ _ _ _ _ _ _ _ _ _ _ _ _ G2.out _).mono ?_;rintro e w4 ⟨rfl,hb4⟩;have z_w4:=hb4.size;(try simp at z_w4);obtain ⟨yw4aa,cw4aa,fw4aa,rw4aa,tw4aa,pw4aa⟩:=bq hb4 (w.heap.size);obtain ⟨yw4ab,cw4ab,fw4ab,rw4ab,tw4ab,pw4ab⟩:=bq hb4 (w.heap.size+1);obtain ⟨y_w4_tk,c_w4_tk,f_w4_tk,r_w4_tk,t_w4_tk,p_w4_tk⟩:=bq hb4 (tk);obtain ⟨yw4ca,cw4ca,fw4ca,rw4ca,tw4ca,pw4ca⟩:=bq hb4 (w3.heap.size)
       clear e2' e3' e4' hm'
       go_wp2_with fail
       refine (at_v _ _ _ _ _ _ _ _ _ _ _ _ _ _ _ G3.out _).mono ?_;rintro e w5 ⟨rfl,hb5⟩;have z_w5:=hb5.size;(try simp at z_w5);obtain ⟨yw5aa,cw5aa,fw5aa,rw5aa,tw5aa,pw5aa⟩:=bq hb5 (w.heap.size);obtain ⟨yw5ab,cw5ab,fw5ab,rw5ab,tw5ab,pw5ab⟩:=bq hb5 (w.heap.size+1);obtain ⟨y_w5_tk,c_w5_tk,f_w5_tk,r_w5_tk,t_w5_tk,p_w5_tk⟩:=bq hb5 (tk);obtain ⟨yw5ca,cw5ca,fw5ca,rw5ca,tw5ca,pw5ca⟩:=bq hb5 (w3.heap.size);obtain ⟨yw5da,cw5da,fw5da,rw5da,tw5da,pw5da⟩:=bq hb5 (w4.heap.size)
       have hbr:=HB4.out
       go_wp2_with fail
       refine (HA.out _ below_byR).mono ?_;rintro e w6 ⟨rfl,hb6⟩
       go_wp2_with fail
       go_ret
       exact ⟨rfl,below_byR⟩
      ·obtain ⟨y1,c1,f1,-⟩:=bk_o BE4.out
       obtain ⟨y2,c2,f2,-⟩:=bk_o BP4.out
       obtain ⟨y3,c3,f3,-⟩:=bk_o BT4.out
       have rw3:=BT4.out.row?_all 5 rfl
       go_wp2_with fail
       try simp only [HN.out,e1.out,e1'.out]
       refine (at_v _ _ _ _ _ _ _ _ _ _ _ _ _ _ _ G1.out _).mono ?_;rintro e w3 ⟨rfl,hb3⟩;have z_w3:=hb3.size;(try simp at z_w3);obtain ⟨yw3aa,cw3aa,fw3aa,rw3aa,tw3aa,pw3aa⟩:=bq hb3 (w.heap.size);obtain ⟨yw3ab,cw3ab,fw3ab,rw3ab,tw3ab,pw3ab⟩:=bq hb3 (w.heap.size+1);obtain ⟨y_w3_tk,c_w3_tk,f_w3_tk,r_w3_tk,t_w3_tk,p_w3_tk⟩:=bq hb3 (tk)
       have e2':=e2.out
       have e3':=e3.out
       have e4':=e4.out
       have hm':=HM.out
       go_wp2_with fail
       refine (at_v _ _ _ _ _ _ _ _ _ _ _ _ _ _ _ G2.out _).mono ?_;rintro e w4 ⟨rfl,hb4⟩;have z_w4:=hb4.size;(try simp at z_w4);obtain ⟨yw4aa,cw4aa,fw4aa,rw4aa,tw4aa,pw4aa⟩:=bq hb4 (w.heap.size);obtain ⟨yw4ab,cw4ab,fw4ab,rw4ab,tw4ab,pw4ab⟩:=bq hb4 (w.heap.size+1);obtain ⟨y_w4_tk,c_w4_tk,f_w4_tk,r_w4_tk,t_w4_tk,p_w4_tk⟩:=bq hb4 (tk);obtain ⟨yw4ca,cw4ca,fw4ca,rw4ca,tw4ca,pw4ca⟩:=bq hb4 (w3.heap.size)
       clear e2' e3' e4' hm'
       go_wp2_with fail
       refine (at_v _ _ _ _ _ _ _ _ _ _ _ _ _ _ _ G3.out _).mono ?_;rintro e w5 ⟨rfl,hb5⟩;have z_w5:=hb5.size;(try simp at z_w5);obtain ⟨yw5aa,cw5aa,fw5aa,rw5aa,tw5aa,pw5aa⟩:=bq hb5 (w.heap.size);obtain ⟨yw5ab,cw5ab,fw5ab,rw5ab,tw5ab,pw5ab⟩:=bq hb5 (w.heap.size+1);obtain ⟨y_w5_tk,c_w5_tk,f_w5_tk,r_w5_tk,t_w5_tk,p_w5_tk⟩:=bq hb5 (tk);obtain ⟨yw5ca,cw5ca,fw5ca,rw5ca,tw5ca,pw5ca⟩:=bq hb5 (w3.heap.size);obtain ⟨yw5da,cw5da,fw5da,rw5da,tw5da,pw5da⟩:=bq hb5 (w4.heap.size)
       have hbr:=HB4.out
       go_wp2_with fail
       refine (HA.out _ below_byR).mono ?_;rintro e w6 ⟨rfl,hb6⟩
       go_wp2_with fail
       go_ret
       exact ⟨rfl,below_byR⟩
      ·obtain ⟨y1,c1,f1,-⟩:=bk_o BE4.out
       obtain ⟨y2,c2,f2,-⟩:=bk_o BP4.out
       obtain ⟨y3,c3,f3,-⟩:=bk_o BT4.out
       have rw3:=BT4.out.row?_all 5 rfl
       go_wp2_with fail
       try simp only [HN.out,e1.out,e1'.out]
       refine (at_v _ _ _ _ _ _ _ _ _ _ _ _ _ _ _ G1.out _).mono ?_;rintro e w3 ⟨rfl,hb3⟩;have z_w3:=hb3.size;(try simp at z_w3);obtain ⟨yw3aa,cw3aa,fw3aa,rw3aa,tw3aa,pw3aa⟩:=bq hb3 (w.heap.size);obtain ⟨yw3ab,cw3ab,fw3ab,rw3ab,tw3ab,pw3ab⟩:=bq hb3 (w.heap.size+1);obtain ⟨y_w3_tk,c_w3_tk,f_w3_tk,r_w3_tk,t_w3_tk,p_w3_tk⟩:=bq hb3 (tk)
       have e2':=e2.out
       have e3':=e3.out
       have e4':=e4.out
       have hm':=HM.out
       go_wp2_with fail
       refine (at_v _ _ _ _ _ _ _ _ _ _ _ _ _ _ _ G2.out _).mono ?_;rintro e w4 ⟨rfl,hb4⟩;have z_w4:=hb4.size;(try simp at z_w4);obtain ⟨yw4aa,cw4aa,fw4aa,rw4aa,tw4aa,pw4aa⟩:=bq hb4 (w.heap.size);obtain ⟨yw4ab,cw4ab,fw4ab,rw4ab,tw4ab,pw4ab⟩:=bq hb4 (w.heap.size+1);obtain ⟨y_w4_tk,c_w4_tk,f_w4_tk,r_w4_tk,t_w4_tk,p_w4_tk⟩:=bq hb4 (tk);obtain ⟨yw4ca,cw4ca,fw4ca,rw4ca,tw4ca,pw4ca⟩:=bq hb4 (w3.heap.size)
       clear e2' e3' e4' hm'
       go_wp2_with fail
       refine (at_v _ _ _ _ _ _ _ _ _ _ _ _ _ _ _ G3.out _).mono ?_;rintro e w5 ⟨rfl,hb5⟩;have z_w5:=hb5.size;(try simp at z_w5);obtain ⟨yw5aa,cw5aa,fw5aa,rw5aa,tw5aa,pw5aa⟩:=bq hb5 (w.heap.size);obtain ⟨yw5ab,cw5ab,fw5ab,rw5ab,tw5ab,pw5ab⟩:=bq hb5 (w.heap.size+1);obtain ⟨y_w5_tk,c_w5_tk,f_w5_tk,r_w5_tk,t_w5_tk,p_w5_tk⟩:=bq hb5 (tk);obtain ⟨yw5ca,cw5ca,fw5ca,rw5ca,tw5ca,pw5ca⟩:=bq hb5 (w3.heap.size);obtain ⟨yw5da,cw5da,fw5da,rw5da,tw5da,pw5da⟩:=bq hb5 (w4.heap.size)
       have hbr:=HB4.out
       go_wp2_with fail
       refine (HA.out _ below_byR).mono ?_;rintro e w6 ⟨rfl,hb6⟩
       go_wp2_with fail
       go_ret
       exact ⟨rfl,below_byR⟩
    ·have k3:(30:Int)≤j:=by omega
     obtain ⟨y1,c1,f1,-⟩:=bk_o BE4.out
     go_wp2_with fail
     refine (HA.out _ (HB4.out)).mono ?_;rintro e w3 ⟨rfl,hb3⟩
     go_wp2_with fail
     go_ret
     exact ⟨rfl,HB4.out.trans (hb3.mono hsz)⟩
   ·have hjl:j=len:=by omega
    subst hjl
    have hsz:=HB4.out.size
    have k1:¬ ((j:Int)<(j:Int)):=by omega
    go_wp2_with fail
    refine (HA.out _ (HB4.out)).mono ?_;rintro e w3 ⟨rfl,hb3⟩
    go_wp2_with fail
    go_ret
    exact ⟨rfl,HB4.out.trans (hb3.mono hsz)⟩
end Go.Proofs.YtechbdnhalmobaaGreatDoor
