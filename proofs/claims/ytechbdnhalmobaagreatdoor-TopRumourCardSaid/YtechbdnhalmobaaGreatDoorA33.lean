/- The walk of the fleet: tick, hear, deliver. -/
import Derived.Test.YtechbdnhalmobaaGreatDoorA36
set_option maxRecDepth 100000
set_option maxHeartbeats 16000000
namespace Go.Proofs.YtechbdnhalmobaaGreatDoor
set_option linter.unusedSimpArgs false
set_option linter.unusedVariables false
open Go.RowKit Go.Maps
theorem ftick_c {ow:Nat→Nat} {w:World} {g tw ta:Nat} {gs:List Nat} {nv bv:Value} {F:FleetD} (H0:FlO ow w g tw ta gs nv bv F w) (OK:FleetOK F) (ht:F.w.time<750000)
  (HT:∀ i n,F.n[i]? = some n→F.on.getD i false=true→TickC n (n.tick ((F.w.tick.1.step.1).now i) ((F.w.tick.1.step.1).fine i F.w.tick.1.step.2)).1 ((F.w.tick.1.step.1).now i) ((F.w.tick.1.step.1).fine i F.w.tick.1.step.2) (n.tick ((F.w.tick.1.step.1).now i) ((F.w.tick.1.step.1).fine i F.w.tick.1.step.2)).2)
  (HL:∀ (i:Nat) (n:NodeD),F.n[i]? = some n→(n.tick ((F.w.tick.1.step.1).now i) ((F.w.tick.1.step.1).fine i F.w.tick.1.step.2)).2.length≤1000000) :
  Calls Tryz.prog 30 #[ptr g] w fun e w'=>e = .returned (.int .i64 0)∧FlO ow w g tw ta gs nv bv F.tick.1 w':=by
 have EV:Hid (F.tick.1=tickJ { F with w:=F.w.tick.1.step.1 } F.w.tick.1.step.2 F.n.length):=by
  show _=_
  have e1:F.w.tick.2=true:=by unfold TruD.tick;rw [if_neg (by omega)]
  unfold FleetD.tick
  rw [e1];rfl
 have OK1:FleetOK { F with w:=F.w.tick.1 }:=⟨truTick_ok OK.t ht,by show F.w.tick.1.p.length=_;rw [← OK.p];unfold TruD.tick;split <;> rfl,OK.a,OK.d,OK.lost,OK.lo⟩
 have OK2:FleetOK { F with w:=F.w.tick.1.step.1 }:=⟨truStep_ok OK1.t,OK1.p,OK.a,OK.d,OK.lost,OK.lo⟩
 have hG:=truStep_bd OK1.t
 obtain ⟨T1,hT1⟩:∃ T,F.w.tick.1.step.1=T:=⟨_,rfl⟩
 obtain ⟨G,hGG⟩:∃ z,F.w.tick.1.step.2=z:=⟨_,rfl⟩
 have HTT:Hid (Calls Tryz.prog 64 #[ptr tw] w fun e w'=>e = .returned (.bool true)∧Hid (FlO ow w g tw ta gs nv bv { F with w:=F.w.tick.1 } w')):=H0.ttick_c OK ht
 have HST:Hid (∀ w1,FlO ow w g tw ta gs nv bv { F with w:=F.w.tick.1 } w1→Calls Tryz.prog 65 #[ptr tw] w1 fun e w'=>e = .returned (.int .i64 G)∧Hid (FlO ow w g tw ta gs nv bv { F with w:=T1 } w')):=fun w1 h1=>by
  have:=h1.step_c OK1
  simp only [hT1,hGG] at this
  exact this
 rw [hT1,hGG] at EV
 simp only [hT1,hGG] at HT HL
 rw [hGG] at hG
 rw [hT1] at OK2
 have HOK:=Lib.hid OK2
 have HHT:=Lib.hid HT
 have HHL:=Lib.hid HL
 have HLO:=Lib.hid OK.lo
 obtain ⟨owr,hin,-⟩:=id H0
 obtain ⟨an,cn,rfl⟩:=row_form hin.rn
 obtain ⟨ab,cb,rfl⟩:=row_form hin.rb
 have hln:=hin.ln
 have hnl:F.n.length≤64:=by rw [← OK.p];exact OK.t.len
 obtain ⟨q0,q1,q13,q14,q15,f1,y1⟩:=H0.cells
 have HG:=Lib.hid hG
 have HLN:=Lib.hid hln
 have hgl:gs.length≤64:=by omega
 clear H0 OK OK1 OK2 HT HL hT1 hGG hin hG hln
 go_enter Tryz.func30,Tryz.ntmps30
 go_wp2_with fail
 refine HTT.out.mono ?_;rintro e w1 ⟨rfl,H1⟩
 clear q0 q1 q13 q14 q15 f1 y1
 obtain ⟨q0,q1,q13,q14,q15,f1,y1⟩:=H1.out.cells
 go_wp2_with fail
 refine (HST.out _ H1.out).mono ?_;rintro e w2 ⟨rfl,H2⟩
 clear q0 q1 q13 q14 q15 f1 y1
 obtain ⟨q0,q1,q13,q14,q15,f1,y1⟩:=H2.out.cells
 go_wp2_with fail
 clear q0 q1 q13 q14 q15 f1 y1
 go_loopw [22] (fun t22 wr=>∃ k:Nat,k≤gs.length∧t22 = .int .i64 k∧Hid (FlO ow w g tw ta gs (.slice an gs.length cn) (.slice ab F.on.length cb) (tickJ { F with w:=T1 } G k) wr)) (fun t22 _=>gs.length-(intOf t22).toNat)
 case atStart=>exact ⟨0,by omega,rfl,H2⟩
 case round =>
  obtain ⟨k,hk,rfl,HK⟩:=hrel
  by_cases hlt:k<gs.length
  ·have k1:(k:Int)<(gs.length:Int):=by omega
   have k2:(0:Int)≤(k:Int):=by omega
   obtain ⟨s1,s2,s3,s4,s5⟩:=tickJ_same { F with w:=T1 } G k
   obtain ⟨n,hn⟩:∃ n,F.n[k]? = some n:=⟨_,List.getElem?_eq_getElem (by have:=HLN.out;omega)⟩
   obtain ⟨b,hb⟩:∃ b,F.on[k]? = some b:=⟨_,List.getElem?_eq_getElem (by have:=HLN.out;have:=HLO.out;omega)⟩
   have hnk:(tickJ { F with w:=T1 } G k).n[k]? = some n:=(s5 k (Nat.le_refl _)).trans hn
   have hbk:(tickJ { F with w:=T1 } G k).on[k]? = some b:=by rw [s1];exact hb
   obtain ⟨nb,cn',e1,nbl,cnb⟩:=HK.out.node (j:=k) (by rw [s4];show k<F.n.length;have:=HLN.out;omega)
   obtain ⟨ob,co',e2,obl,cob⟩:=HK.out.on hbk
   rw [s1] at e2
   injection e1 with e1 _ e1';subst e1;subst e1'
   injection e2 with e2 _ e2';subst e2;subst e2'
   obtain ⟨q0,q1,q13,q14,q15,f1,y1⟩:=HK.out.cells
   have kb:(k:Int)<(F.on.length:Int):=by have:=HLN.out;have:=HLO.out;omega
   have EJ:=Lib.hid (tickJ_succ { F with w:=T1 } G k)
   cases b with
   | false =>
    have ES:Hid ((tickJ { F with w:=T1 } G k).tick1 k G=tickJ { F with w:=T1 } G k):=by
     show _=_
     unfold FleetD.tick1
     rw [hnk,List.getD_eq_getElem?_getD,hbk];rfl
    clear s1 s2 s3 s4 s5 hn hb hnk hbk
    go_wp2_with fail
    go_roundw
    case rel =>
     refine ⟨k+1,by omega,by go_num,?_⟩
     show FlO _ _ _ _ _ _ _ _ _ _
     rw [EJ.out,ES.out];exact HK.out
    case measure=>exact (by first|(simp [intOf];done)|(simp [intOf];omega))
   | true =>
    have hon:(tickJ { F with w:=T1 } G k).on.getD k false=true:=by rw [List.getD_eq_getElem?_getD,hbk];rfl
    have OKk:=tickJ_ok HOK.out G k
    have hkl:k<(tickJ { F with w:=T1 } G k).n.length:=by rw [s4];show k<F.n.length;have:=HLN.out;omega
    have hw:(tickJ { F with w:=T1 } G k).w=T1:=s2
    have HN:Hid (∀ w1,Below wr.heap.size wr w1→Calls Tryz.prog 68 #[ptr tw,.int .i64 k] w1 fun e w'=>e = .returned (.int .i64 (T1.now k))∧Below w1.heap.size w1 w'):=fun w1 hb=>by
     have:=(HK.out.below hb).now_c OKk k hkl
     rw [hw] at this;exact this
    have HF:Hid (∀ w1,Below wr.heap.size wr w1→Calls Tryz.prog 69 #[ptr tw,.int .i64 k,.int .i64 G] w1 fun e w'=>e = .returned (.int .i64 (T1.fine k G))∧Below w1.heap.size w1 w'):=fun w1 hb=>by
     have:=(HK.out.below hb).fine_c OKk k hkl G (by have:=HG.out;omega)
     rw [hw] at this;exact this
    have hTC:=HHT.out k n hn (by rw [← s1];exact hon)
    have hTL:=HHL.out k n hn
    obtain ⟨⟨n2,o⟩,ho⟩:∃ r,n.tick (T1.now k) (T1.fine k G)=r:=⟨_,rfl⟩
    rw [ho] at hTC hTL
    have HTI:Hid (∀ w1,Below wr.heap.size wr w1→Calls Tryz.prog 67 #[ptr (gs.getD k 0),.int .i64 (T1.now k),.int .i64 (T1.fine k G)] w1 fun e w'=>∃ v,e = .returned v∧Hid (FlV ow w g tw ta gs (.slice (some ⟨nb,0,none⟩) gs.length cn) (.slice (some ⟨ob,0,none⟩) F.on.length cb) ((tickJ { F with w:=T1 } G k).setN k n2) o v w')):=fun w1 hb=>(HK.out.below hb).node_tick k n n2 _ _ o hnk hTC
    have HSN:Hid (∀ v w1,FlV ow w g tw ta gs (.slice (some ⟨nb,0,none⟩) gs.length cn) (.slice (some ⟨ob,0,none⟩) F.on.length cb) ((tickJ { F with w:=T1 } G k).setN k n2) o v w1→Calls Tryz.prog 66 #[ptr g,.int .i64 k,v,.int .i64 G] w1 fun e w'=>e = .returned (.tuple #[])∧Hid (FlO ow w g tw ta gs (.slice (some ⟨nb,0,none⟩) gs.length cn) (.slice (some ⟨ob,0,none⟩) F.on.length cb) ((tickJ { F with w:=T1 } G k).tick1 k G) w')):=fun v w1 hv=>by
     have h1:=FlV.tick1_c (ow:=ow) (w:=w) (wr:=w1) (g:=g) (tw:=tw) (ta:=ta) (gs:=gs) (nv := .slice (some ⟨nb,0,none⟩) gs.length cn) (bv := .slice (some ⟨ob,0,none⟩) F.on.length cb) OKk k n hnk hon G HG.out
     rw [hw,ho] at h1
     exact h1 hTL hv
    obtain ⟨nw,hnw⟩:∃ z,T1.now k=z:=⟨_,rfl⟩
    obtain ⟨fn,hfn⟩:∃ z,T1.fine k G=z:=⟨_,rfl⟩
    obtain ⟨gk,hgk⟩:∃ z,gs.getD k 0=z:=⟨_,rfl⟩
    rw [hnw] at HN HTI
    rw [hfn] at HF HTI
    rw [hgk] at HTI cnb
    obtain ⟨FK,hFK⟩:∃ z,(tickJ { F with w:=T1 } G k).setN k n2=z:=⟨_,rfl⟩
    obtain ⟨FL,hFL⟩:∃ z,(tickJ { F with w:=T1 } G k).tick1 k G=z:=⟨_,rfl⟩
    rw [hFK] at HTI HSN
    rw [hFL] at HSN EJ
    clear s1 s2 s3 s4 s5 hn hb hnk hbk hTC hTL ho hw hkl hon OKk hnw hfn hgk hFK hFL
    go_wp2_with fail
    go_region_held3 (fun w'=>w'.cell? ⟨g,0,none⟩=some (ptr tw)) (go_simp)
     (first
     | (go_at_call 68;refine (HN.out _ below_byR).mono ?_;rintro e w3 ⟨rfl,hb3⟩;have z_w3:=hb3.size;(try simp at z_w3);obtain ⟨y_w3_g,c_w3_g,f_w3_g,r_w3_g,t_w3_g,p_w3_g⟩:=bq hb3 (g))
     | (go_at_call 69;refine (HF.out _ below_byR).mono ?_;rintro e w4 ⟨rfl,hb4⟩;have z_w4:=hb4.size;(try simp at z_w4);obtain ⟨y_w4_g,c_w4_g,f_w4_g,r_w4_g,t_w4_g,p_w4_g⟩:=bq hb4 (g))
     | (go_at_call 67;refine (HTI.out _ below_byR).mono ?_;rintro e w5 ⟨v,rfl,hv⟩;obtain ⟨v0,v1,v13,v14,v15,vf,vy⟩:=hv.out.fl.cells)
     | (go_at_call 66;refine (HSN.out _ _ hv.out).mono ?_;rintro e w6 ⟨rfl,hq⟩;obtain ⟨p0,p1,p13,p14,p15,pf,py⟩:=hq.out.cells))
    all_goals go_wp2_with fail
    all_goals go_roundw
    all_goals first
     | exact (by first|(simp [intOf];done)|(simp [intOf];omega))
     | ((repeat apply Exists.intro);refine ⟨⟨k+1,by omega,by go_num,?_⟩,rfl⟩;show FlO _ _ _ _ _ _ _ _ _ _;rw [EJ.out];exact hq.out)
     | (refine ⟨k+1,by omega,by go_num,?_⟩;show FlO _ _ _ _ _ _ _ _ _ _;rw [EJ.out];exact hq.out)
  ·have hkl:k=gs.length:=by omega
   subst hkl
   have k1:¬ ((gs.length:Int)<(gs.length:Int)):=by omega
   go_wp2_with fail
   go_ret
   rw [EV.out,← HLN.out]
   exact ⟨rfl,HK.out⟩
end Go.Proofs.YtechbdnhalmobaaGreatDoor
