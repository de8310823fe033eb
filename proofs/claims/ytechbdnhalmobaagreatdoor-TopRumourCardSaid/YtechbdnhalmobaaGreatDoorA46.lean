/- The walk of fleet.New: a round. -/
import Derived.Test.YtechbdnhalmobaaGreatDoorA36
import Derived.Deep.RegionHeld3
namespace Go.Proofs.YtechbdnhalmobaaGreatDoor
set_option linter.unusedSimpArgs false
set_option linter.unusedVariables false
set_option maxRecDepth 100000
set_option maxHeartbeats 16000000
open Go.RowKit Go.Maps
theorem row_set1 {w:World} {B e n b cap k:Nat} {xs:List Value} (h:w.ownsRow B e 1 (.slice (some ⟨b,0,none⟩) n cap) n xs) (hk:k<n) (u:Value):(w.setCell ⟨b,k,none⟩ u).ownsRow B e 1 (.slice (some ⟨b,0,none⟩) n cap) n (xs.set k u):=by
 obtain ⟨h1,⟨h2,-⟩|⟨g,c,cur,h2,hB,hg,hn,hc,hs,ht⟩⟩:=h
 ·cases h2
 ·injection h2 with h2 _ h3
  injection h2 with h2
  injection h2 with h2
  subst h2;subst h3
  have hb:Blk w b cur e:=hg
  have hb2:=hb.setCell_same k u
  refine ⟨by simpa using h1,.inr ⟨b,cap,_,rfl,hB,hb2,hn,hc,by simpa using hs,?_⟩⟩
  rw [Array.toList_setIfInBounds,← ht,Nat.mul_one,List.take_set]
theorem fl_blk {ow:Nat→Nat} {x W w5:World} {g tw ta:Nat} {gs:List Nat} {nv bv:Value} {F:FleetD} (H:FleetIn ow x g tw ta gs nv bv F) (hb:Below x.heap.size x W) (hg:W.grownBy w5 nv.ownBlock):Blk w5 g (flC F tw ta nv bv) 73:=by
 have hrW:=row_below H.rn hb
 have hAW:=H.blk.keep hb
 obtain ⟨-,⟨rfl,-⟩|⟨b,cap,cur,rfl,-,h2,-⟩⟩:=hrW
 ·exact hAW.keep (grown_below hg)
 ·exact (grown_only hg).blk hAW (Blk.ne hAW (show Blk W b cur 43 from h2) (by decide))
theorem own_grown {x W w5:World} {B B' e' size n m:Nat} {nv v:Value} {ys xs:List Value} (hn:x.ownsRow B 43 1 nv n ys) (h:x.ownsRow B' e' size v m xs) (hne:e'≠43) (hb:Below x.heap.size x W) (hg:W.grownBy w5 nv.ownBlock):w5.ownsRow B' e' size v m xs:=by
 have hrW:=row_below hn hb
 have h2:=row_below h hb
 obtain ⟨-,⟨rfl,-⟩|⟨b,cap,cur,rfl,-,h3,-⟩⟩:=hrW
 ·exact row_below h2 (grown_below hg)
 ·exact row_turns h2 (TurnsT.of_only (S:=fun _=>True) (mp:=false) (grown_only hg) (show Blk W b cur 43 from h3) (List.mem_singleton.2 rfl) trivial) (by simpa using hne)
def NewR (w:World) (c:Cfg) (N cb g tw ta:Nat) (k:Nat) (wr:World):Prop :=
 ∃ owr gs nv bv,FleetIn owr wr g tw ta gs nv bv (fltK c N k)∧Below w.heap.size w wr∧(∀ j,j<w.heap.size→owr j=0)∧Blk wr cb (cfgL c).toArray 26∧owr cb=0
section
variable {w x wN W w5:World} {c:Cfg} {N cb g tw ta k ob co gN:Nat} {owr:Nat→Nat} {gs:List Nat} {nv v2:Value} {L:NLay}
theorem new_end (hc:c.nodes=(N:Int)) (H:FleetIn owr x g tw ta gs nv (.slice (some ⟨ob,0,none⟩) N co) (fltK c N k)) (hk:k<N) (hB:Below w.heap.size w x) (h0:∀ j,j<w.heap.size→owr j=0) (hC:Blk x cb (cfgL c).toArray 26) (hC0:owr cb=0)
  (hbN:Below x.heap.size x wN) (hN:NodeAt (fun j=>x.heap.size≤j) wN gN L (NodeD.new c k 0 (ellAt k))) (hbW:Below wN.heap.size wN W)
  (hrow:w5.ownsRow 0 43 1 v2 (k+1) (gs.map ptr ++ [ptr gN])) (hg:W.grownBy w5 nv.ownBlock) (hat:v2.ownBlock=nv.ownBlock∨v2.ownBlock=some W.heap.size) :
  NewR w c N cb g tw ta (k+1) ((w5.setCell ⟨g,13,none⟩ v2).setCell ⟨ob,k,none⟩ (.bool true)):=by
 have hkl:(fltK c N k).n.length=k:=fltK_len c N k
 have hz1:=hbN.size
 have hz2:=hbW.size
 have hgl:gs.length=k:=by rw [← hkl];exact H.ln
 have hol:(fltK c N k).on.length=N:=by simp [fltK];omega
 obtain ⟨F,hF⟩:∃ F,fltK c N k=F:=⟨_,rfl⟩
 have hsucc:=fltK_succ c N k hk
 rw [hF] at H hkl hol hsucc
 -- owners
 have H1:FleetIn (ext owr x.heap.size (k+4)) wN g tw ta gs nv (.slice (some ⟨ob,0,none⟩) N co) F:=H.below hbN (k+4)
 have N1:NodeAt (fun j=>ext owr x.heap.size (k+4) j=k+4) wN gN L (NodeD.new c k 0 (ellAt k)):=hN.mono (fun j _ hj=>by
  have hj:x.heap.size≤j:=hj
  show ext owr x.heap.size (k+4) j=k+4
  unfold ext;rw [if_neg (by omega)])
 obtain ⟨o1,ho1⟩:∃ o1,ext owr x.heap.size (k+4)=o1:=⟨_,rfl⟩
 rw [ho1] at H1 N1
 have H2:FleetIn (ext o1 wN.heap.size 1) W g tw ta gs nv (.slice (some ⟨ob,0,none⟩) N co) F:=H1.below hbW 1
 have N2:NodeAt (fun j=>ext o1 wN.heap.size 1 j=F.n.length+4) W gN L (NodeD.new c k 0 (ellAt k)):=N1.kept (fun j hj _=>hbW.block j hj) (fun j hj h=>by
  show ext o1 wN.heap.size 1 j=_
  rw [ext_lt hj,hkl];exact h)
 obtain ⟨o2,ho2⟩:∃ o2,ext o1 wN.heap.size 1=o2:=⟨_,rfl⟩
 rw [ho2] at H2 N2
 have G5:Blk w5 g (flC F tw ta nv (.slice (some ⟨ob,0,none⟩) N co)) 73:=fl_blk H2 (Below.refl _ _) hg
 have rb2:W.ownsRow 0 4 1 (.slice (some ⟨ob,0,none⟩) N co) N (F.on.map Value.bool):=by have:=H2.rb;rw [hol] at this;exact this
 have rb5:w5.ownsRow 0 4 1 (.slice (some ⟨ob,0,none⟩) N co) N (F.on.map Value.bool):=own_grown H2.rn rb2 (by decide) (Below.refl _ _) hg
 obtain ⟨bc,B5⟩:∃ bc,Blk w5 ob bc 4:=by
  obtain ⟨-,⟨h2,-⟩|⟨b,c2,cur,h2,-,h4,-⟩⟩:=rb5
  ·cases h2
  ·injection h2 with h2;injection h2 with h2;injection h2 with h2;subst h2;exact ⟨cur,h4⟩
 have hne:ob≠g:=Blk.ne B5 G5 (by decide)
 obtain ⟨z,hz⟩:∃ z,w5.setCell ⟨g,13,none⟩ v2=z:=⟨_,rfl⟩
 have Og:OnlyAt g w5 z:=by rw [← hz];exact OnlyAt.refl.setCell 13 _
 have Gz:Blk z g (flC F tw ta v2 (.slice (some ⟨ob,0,none⟩) N co)) 73:=by rw [← hz];exact (G5.setCell_same 13 _).of_eq rfl
 have Tg:TurnsT (fun _=>True) [73] false w5 z:=TurnsT.of_only Og G5 (List.mem_singleton.2 rfl) trivial
 have Bz:Blk z ob bc 4:=Og.blk B5 hne
 have Ob:OnlyAt ob z (z.setCell ⟨ob,k,none⟩ (.bool true)):=OnlyAt.refl.setCell k _
 have Tb:TurnsT (fun _=>True) [4] false z (z.setCell ⟨ob,k,none⟩ (.bool true)):=TurnsT.of_only Ob Bz (List.mem_singleton.2 rfl) trivial
 rw [hz]
 have hob:o2 ob=1:=H2.sb ob rfl
 have hTu:Turns (fun j=>o2 j=1) W (z.setCell ⟨ob,k,none⟩ (.bool true)):=by
  have t1:Turns (fun j=>o2 j=1) W w5:=⟨hg.os,hg.tape,hg.output,hg.size,fun j hj hn=>hg.block j hj (fun e=>hn (H2.sn j e.symm))⟩
  exact (t1.then_only Og (.inl H2.og)).then_only Ob (.inl hob)
 have hP:=FleetIn.push (nv':=v2) (bv' := .slice (some ⟨ob,0,none⟩) N co) (on':=F.on.set k true) H2 N2 hTu
  ((Ob.blk Gz hne.symm).of_eq rfl)
  (by rw [hgl];exact row_turns (row_turns hrow Tg (by decide)) Tb (by decide))
  (fun b e=>by
   rcases hat with h|h
   ·exact .inl (H2.sn b (h ▸ e))
   ·rw [h] at e;injection e with e;exact .inr (by omega))
  (by
   have:=row_set1 (row_turns rb5 Tg (by decide)) hk (.bool true)
   rw [List.length_set,hol,List.map_set]
   exact this)
  (fun b e => .inl (H2.sb b e))
 rw [hsucc] at hP
 have hCl:=hC.lt
 refine ⟨_,_,_,_,hP,?_,?_,?_,?_⟩
 ·have h2:Below w.heap.size w W:=(hB.trans (hbN.mono hB.size)).trans (hbW.mono (Nat.le_trans hB.size hz1))
  refine hTu.below h2 (Nat.le_refl _) (fun j hj=>?_)
  have hj:o2 j=1:=hj
  rcases Nat.lt_or_ge j w.heap.size with h3|h3
  ·have:=hB.size
   rw [← ho2,ext_lt (by omega),← ho1,ext_lt (by omega),h0 j h3] at hj
   cases hj
  ·exact h3
 ·intro j hj
  have:=hB.size
  rw [ext_lt (by omega),← ho2,ext_lt (by omega),← ho1,ext_lt (by omega)]
  exact h0 j hj
 ·have h2:Blk W cb (cfgL c).toArray 26:=(hC.keep hbN).keep hbW
  exact hTu.blk h2 (by
   show ¬ o2 cb=1
   rw [← ho2,ext_lt (by omega),← ho1,ext_lt hCl,hC0];decide)
 ·rw [ext_lt (by omega),← ho2,ext_lt (by omega),← ho1,ext_lt hCl]
  exact hC0
end
theorem new_start {w x u1 u2 v:World} {c:Cfg} {N g tw ta:Nat} {row:Value} (hT:TruAt (fun j=>w.heap.size+1≤j) x tw (.new c)) (hB:Below w.heap.size w x) (hz:w.heap.size+1≤x.heap.size) (hC:Blk x w.heap.size (cfgL c).toArray 26) (h1:Below x.heap.size x u1)
  (hA:AirAt (fun j=>u1.heap.size≤j) u2 ta []) (h2:Below u1.heap.size u1 u2) (h3:Below u2.heap.size u2 v) (hg:Blk v g (flC (fltK c N 0) tw ta (.slice none 0 0) row) 73) (hgs:u2.heap.size≤g)
  (hr:v.ownsRow 0 4 1 row N ((List.replicate N false).map Value.bool)) (hrs:∀ b,row.ownBlock=some b→x.heap.size≤b∧¬ (u1.heap.size≤b∧b<u2.heap.size)):NewR w c N w.heap.size g tw ta 0 v:=by
 have z1:=h1.size
 have z2:=h2.size
 have z3:=h3.size
 have hxv:Below x.heap.size x v:=(h1.trans (h2.mono z1)).trans (h3.mono (Nat.le_trans z1 z2))
 obtain ⟨ow,how⟩:∃ ow:Nat→Nat,ow=fun j=>if j<w.heap.size+1 then 0 else if j<x.heap.size then 3 else if u1.heap.size≤j∧j<u2.heap.size then 2 else 1:=⟨_,rfl⟩
 have o0:∀ j,j<w.heap.size+1→ow j=0:=fun j hj=>by rw [how];simp only;rw [if_pos hj]
 have o3:∀ j,w.heap.size+1≤j→j<x.heap.size→ow j=3:=fun j h1 h2=>by rw [how];simp only;rw [if_neg (by omega),if_pos h2]
 have o2:∀ j,u1.heap.size≤j→j<u2.heap.size→ow j=2:=fun j h1 h2=>by rw [how];simp only;rw [if_neg (by omega),if_neg (by omega),if_pos ⟨h1,h2⟩]
 have o1:∀ j,x.heap.size≤j→¬ (u1.heap.size≤j∧j<u2.heap.size)→ow j=1:=fun j h1 h2=>by rw [how];simp only;rw [if_neg (by omega),if_neg (by omega),if_neg h2]
 refine ⟨ow,[],.slice none 0 0,row,⟨hg,o1 g (by omega) (by omega),rfl,⟨rfl,.inl ⟨rfl,rfl⟩⟩,(fun b e=>by cases e),?_,fun b e=>o1 b (hrs b e).1 (hrs b e).2,?_,?_,?_⟩,hB.trans (hxv.mono hB.size),fun j hj=>o0 j (by omega),hC.keep hxv,o0 _ (by omega)⟩
 ·have e:(fltK c N 0).on=List.replicate N false:=by simp [fltK]
  rw [e,List.length_replicate];exact hr
 ·exact hA.kept h3.size (fun j hj _=>h3.block j hj) (fun j hj h=>o2 j h hj)
 ·exact hT.kept (fun j hj _=>hxv.block j hj) (fun j hj h=>o3 j h hj)
 ·intro i n hn
  have:(fltK c N 0).n = []:=rfl
  rw [this] at hn;simp at hn
theorem NewR.below {w wr w1:World} {c:Cfg} {N cb g tw ta k:Nat} (h:NewR w c N cb g tw ta k wr) (hb:Below wr.heap.size wr w1):NewR w c N cb g tw ta k w1:=by
 obtain ⟨owr,gs,nv,bv,h1,h2,h3,h4,h5⟩:=h
 have:=h2.size
 exact ⟨_,gs,nv,bv,h1.below hb 0,h2.trans (hb.mono h2.size),fun j hj=>(ext_lt (by omega)).trans (h3 j hj),h4.keep hb,(ext_lt h4.lt).trans h5⟩
theorem head_at {ops:Array Oper} {i:Nat} {o:Oper} (h:(ops.toList.drop i).head? = some o):ops[i]? = some o:=by rw [List.head?_drop,Array.getElem?_toList] at h;exact h
theorem cells11 {w:World} {b t:Nat} {a0 a1 a2 a3 a4 a5 a6 a7 a8 a9 a10:Value} (h:Blk w b #[a0,a1,a2,a3,a4,a5,a6,a7,a8,a9,a10] t):w.cell? ⟨b,0,none⟩=some a0∧w.cell? ⟨b,1,none⟩=some a1∧w.cell? ⟨b,2,none⟩=some a2∧w.cell? ⟨b,3,none⟩=some a3∧w.cell? ⟨b,4,none⟩=some a4∧w.cell? ⟨b,5,none⟩=some a5∧w.cell? ⟨b,6,none⟩=some a6∧w.cell? ⟨b,7,none⟩=some a7∧w.cell? ⟨b,8,none⟩=some a8∧w.cell? ⟨b,9,none⟩=some a9∧w.cell? ⟨b,10,none⟩=some a10:=⟨h.cell rfl,h.cell rfl,h.cell rfl,h.cell rfl,h.cell rfl,h.cell rfl,h.cell rfl,h.cell rfl,h.cell rfl,h.cell rfl,h.cell rfl⟩
theorem cells5 {w:World} {b t:Nat} {a0 a1 a2 a3 a4:Value} (h:Blk w b #[a0,a1,a2,a3,a4] t):w.cell? ⟨b,0,none⟩=some a0∧w.cell? ⟨b,1,none⟩=some a1∧w.cell? ⟨b,2,none⟩=some a2∧w.cell? ⟨b,3,none⟩=some a3∧w.cell? ⟨b,4,none⟩=some a4:=⟨h.cell rfl,h.cell rfl,h.cell rfl,h.cell rfl,h.cell rfl⟩
theorem own_blk {w:World} {B e n b cap:Nat} {xs:List Value} (h:w.ownsRow B e 1 (.slice (some ⟨b,0,none⟩) n cap) n xs):∃ bc,Blk w b bc e:=by
 obtain ⟨-,⟨h2,-⟩|⟨b,c2,cur,h2,-,h4,-⟩⟩:=h
 ·cases h2
 ·injection h2 with h2;injection h2 with h2;injection h2 with h2;subst h2;exact ⟨cur,h4⟩
theorem blk_grown {ow:Nat→Nat} {x W w5:World} {g tw ta b ty:Nat} {cs:Array Value} {gs:List Nat} {nv bv:Value} {F:FleetD} (H:FleetIn ow x g tw ta gs nv bv F) (hAW:Blk W b cs ty) (hne:ty≠43) (hb:Below x.heap.size x W) (hg:W.grownBy w5 nv.ownBlock):Blk w5 b cs ty:=by
 have hrW:=row_below H.rn hb
 obtain ⟨-,⟨rfl,-⟩|⟨b,cap,cur,rfl,-,h2,-⟩⟩:=hrW
 ·exact hAW.keep (grown_below hg)
 ·exact (grown_only hg).blk hAW (Blk.ne hAW (show Blk W b cur 43 from h2) hne)
theorem new_mid {x W w5:World} {owr:Nat→Nat} {g tw ta ob co N k:Nat} {gs:List Nat} {nv:Value} {F:FleetD} (H:FleetIn owr x g tw ta gs nv (.slice (some ⟨ob,0,none⟩) N co) F) (hol:F.on.length=N) (hk:k<N) (hb:Below x.heap.size x W) (hg:W.grownBy w5 nv.ownBlock) :
  Blk w5 g (flC F tw ta nv (.slice (some ⟨ob,0,none⟩) N co)) 73∧(∃ b,w5.cell? ⟨ob,k,none⟩=some (.bool b))∧(∀ o,w5.frozen? ⟨ob,o,none⟩=false)∧ob<w5.heap.size∧¬ (ob=g)∧¬ (g=ob):=by
 have G5:=fl_blk H hb hg
 have rb:x.ownsRow 0 4 1 (.slice (some ⟨ob,0,none⟩) N co) N (F.on.map Value.bool):=by have:=H.rb;rw [hol] at this;exact this
 have rb5:w5.ownsRow 0 4 1 (.slice (some ⟨ob,0,none⟩) N co) N (F.on.map Value.bool):=own_grown H.rn rb (by decide) hb hg
 obtain ⟨bc,B5⟩:∃ bc,Blk w5 ob bc 4:=by
  obtain ⟨-,⟨h2,-⟩|⟨b,c2,cur,h2,-,h4,-⟩⟩:=rb5
  ·cases h2
  ·injection h2 with h2;injection h2 with h2;injection h2 with h2;subst h2;exact ⟨cur,h4⟩
 have hne:ob≠g:=Blk.ne B5 G5 (by decide)
 refine ⟨G5,?_,B5.frozen,B5.lt,hne,hne.symm⟩
 obtain ⟨b,hb2⟩:∃ b,F.on[k]? = some b:=⟨_,List.getElem?_eq_getElem (by omega)⟩
 obtain ⟨g2,c2,e2,-,-,h2⟩:=row_cell rb5 (k:=k) (x := .bool b) (by rw [List.getElem?_map,hb2];rfl)
 injection e2 with e2 _ _
 injection e2 with e2
 injection e2 with e2
 subst e2
 exact ⟨b,h2⟩
theorem truNew_p (c:Cfg) (N k:Nat) (h:c.nodes=(N:Int)) (hk:k<N):(TruD.new c).p[k]? = some (1000*((k:Int)%8),1000*((k:Int)/8)):=by
 unfold TruD.new
 simp only
 rw [List.getElem?_map,List.getElem?_range (by omega)]
 rfl
theorem fleetNew_c (c:Cfg) (hc:c.may=true) (w:World):Calls Tryz.prog 23 #[cfgV c] w fun e w'=>∃ g,e = .returned (.tuple #[ptr g,.int .i64 0])∧∃ tw ta gs nv bv owr,FleetIn owr w' g tw ta gs nv bv (.new c)∧Below w.heap.size w w'∧∀ j,j<w.heap.size→owr j=0:=by
 have hcb:=cfg_bd c hc
 obtain ⟨N,hN⟩:∃ N:Nat,c.nodes=(N:Int):=⟨c.nodes.toNat,by omega⟩
 have hN64:N≤64:=by omega
 have hm:=run_make_row' (P:=Tryz.prog) 71 4 (.bool false) 1 Tryz.underlying71 infoBool rfl .i64 .i64 N (by omega) (by omega)
 obtain ⟨i0,hi,hz0,hz1,hz2⟩:=info_parts infoPtr
 have HC:=Lib.hid hc
 have HNN:=Lib.hid hN
 obtain ⟨x0,x1,x2,x3,x4,x5,x6,x7,x8,x9,x10⟩:=c
 simp only at hN
 subst hN
 clear hc hcb
 go_enter Tryz.func23,Tryz.ntmps23
 go_wp2_with fail
 refine (truNew_c _ HC.out _).mono ?_;rintro e w1 ⟨tw,rfl,hT,hb1⟩
 have BC:Hid (Blk w1 w.heap.size #[.int .i64 N,.int .i64 x1,.int .i64 x2,.int .i64 x3,.int .i64 x4,.int .i64 x5,.int .i64 x6,.int .i64 x7,.int .i64 x8,.int .i64 x9,.int .i64 x10] 26):=Blk.keep (Blk.new _ _ _) hb1
 have HB1:Hid (Below w.heap.size w w1):=(show Below _ _ _ from below_byR)
 have hz1':=BC.out.lt
 obtain ⟨cc,hcc⟩:∃ cc:Cfg,(⟨(N:Int),x1,x2,x3,x4,x5,x6,x7,x8,x9,x10⟩:Cfg)=cc:=⟨_,rfl⟩
 have HCE:=Lib.hid hcc
 have HTT:Hid (TruAt (fun j=>w.heap.size+1≤j) w1 tw (.new cc)):=by
  show TruAt _ _ _ _
  rw [← hcc]
  exact hT.kept (fun _ _ _=>rfl) (fun j _ h=>by simpa using h)
 clear hb1 hT
 obtain ⟨y1,c1,f1,-⟩:=bk_o BC.out
 have r11:=BC.out.row?_all 11 rfl
 go_wp2_with fail
 go_cut [5] from 6 (fun s5 wc=>∃ g ta,s5=ptr g∧Hid (NewR w cc N w.heap.size g tw ta 0 wc))
 case first =>
  go_region_with (go_at_call 54;refine (airNew_c _).mono ?_;rintro e w2 ⟨rfl,hA,hb2⟩;have z_w2:=hb2.size;(try simp at z_w2);obtain ⟨yw2aa,cw2aa,fw2aa,rw2aa,tw2aa,pw2aa⟩:=bq hb2 (w.heap.size))
  all_goals go_wp2_with fail
  all_goals go_meet
  all_goals first
   | (refine ⟨_, w1.heap.size, rfl, ?_⟩
      show NewR _ _ _ _ _ _ _ _ _
      have MO:=made_own w2 N (by unfold maxLen;omega)
      have hz2':w1.heap.size≤w2.heap.size:=hb2.size
      refine new_start (u1:=w1.drew) HTT.out HB1.out (by omega) (by rw [← hcc];exact BC.out) (Below.refl _ _).drew hA hb2 (((Below.refl _ _).alloc (Nat.le_refl _) _).alloc (by simp) _) (Blk.of_eq (Blk.new1 w2 _ _ _) (by rw [← hcc];rfl)) (Nat.le_succ _) (row_below MO ((Below.refl _ _).alloc (Nat.le_refl _) _)) (fun b e=>?_)
      injection e with e
      simp only at e
      refine ⟨by omega,fun h=>?_⟩
      omega)
   | (refine ⟨_, w1.heap.size + 1, rfl, ?_⟩
      show NewR _ _ _ _ _ _ _ _ _
      have MO:=made_own w1 N (by unfold maxLen;omega)
      have hz2':w1.heap.size+1≤w2.heap.size:=by have:=hb2.size;simpa using this
      refine new_start (u1:=(w1.alloc (.cells (madeCells #[.bool false] N) 4)).drew) HTT.out HB1.out (by omega) (by rw [← hcc];exact BC.out) ((Below.refl _ _).alloc (Nat.le_refl _) _).drew (by simpa using hA) (by simpa using hb2) ((Below.refl _ _).alloc (Nat.le_refl _) _) (Blk.of_eq (Blk.new w2 _ _) (by rw [← hcc];rfl)) (Nat.le_refl _) (row_below (row_below (row_below MO (Below.refl _ _).drew) (by simpa using hb2)) ((Below.refl _ _).alloc (Nat.le_refl _) _)) (fun b e=>?_)
      injection e with e
      simp only at e
      refine ⟨by omega,fun h=>?_⟩
      simp at h
      omega)
 case rest =>
  obtain ⟨g,ta,rfl,HN0⟩:=hcut
  clear y1 c1 f1 r11 BC HB1 hz1' hcc HTT hm
  have HCN:Hid (cc.nodes=(N:Int)∧cc.may=true∧(cfgL cc).toArray=#[.int .i64 N,.int .i64 x1,.int .i64 x2,.int .i64 x3,.int .i64 x4,.int .i64 x5,.int .i64 x6,.int .i64 x7,.int .i64 x8,.int .i64 x9,.int .i64 x10]):=⟨by rw [← HCE.out],by rw [← HCE.out];exact HC.out,by rw [← HCE.out]⟩
  obtain ⟨ow0,gs0,nv0,bv0,hin0,hbel0,-,hcfg0,-⟩:=id HN0.out
  rw [HCN.out.2.2] at hcfg0
  obtain ⟨y1,c1,f1,-⟩:=bk_o hcfg0
  go_wp2_with fail
  clear y1 c1 f1 hcfg0 hin0 hbel0
  go_loopw [24] (fun t24 wr=>∃ k:Nat,k≤N∧t24 = .int .i64 k∧Hid (NewR w cc N w.heap.size g tw ta k wr)) (fun t24 _=>N-(intOf t24).toNat)
  case atStart=>exact ⟨0,by omega,rfl,HN0⟩
  case round =>
   obtain ⟨k,hk,rfl,HK⟩:=hrel
   by_cases hlt:k<N
   ·have k1:(k:Int)<(N:Int):=by omega
    have k2:(0:Int)≤(k:Int):=by omega
    obtain ⟨owr,gs,nv,bv,hin,hbel,h0,hcfg,hc0⟩:=HK.out
    have hgl:gs.length=k:=by rw [hin.ln];exact fltK_len cc N k
    have hol:(fltK cc N k).on.length=N:=by simp [fltK];omega
    have hrb:=hin.rb
    rw [hol] at hrb
    obtain ⟨ob,co,rfl⟩:=own_some hrb (by omega)
    have hrn:=hin.rn
    rw [hgl] at hrn
    obtain ⟨an,cn,rfl⟩:=row_form hrn
    obtain ⟨x,hx⟩:∃ x,1000*((k:Int)%8)=x:=⟨_,rfl⟩
    obtain ⟨y,hy⟩:∃ y,1000*((k:Int)/8)=y:=⟨_,rfl⟩
    have HPL:Hid (∀ w1,Below wr.heap.size wr w1→Calls Tryz.prog 55 #[ptr tw,.int .i64 k] w1 fun e w'=>e = .returned (.tuple #[.agg #[.int .i64 x,.int .i64 y],.bool true])∧Below w1.heap.size w1 w'):=fun w1 hb=>by
     obtain ⟨pv,mv,h2⟩:=(hin.below hb 0).t
     exact tPlace_c h2 k x y (by rw [← hx,← hy];exact truNew_p cc N k HCN.out.1 hlt)
    obtain ⟨⟨e1,e2,e3,e4,e5⟩,he⟩:∃ e,ellAt k=e:=⟨_,rfl⟩
    have hcl:=hcfg.lt
    have hgll:=hin.blk.lt
    have HIN:=Lib.hid hin
    have HBL:=Lib.hid hbel
    have H00:=Lib.hid h0
    have HCF:=Lib.hid hcfg
    have HC0:=Lib.hid hc0
    have HRN:=Lib.hid hrn
    have HRB:=Lib.hid hrb
    have HE:=Lib.hid he
    have HGL:=Lib.hid hgl
    have hsz:=hbel.size
    clear hin hbel h0 hcfg hc0 hrn hrb he hgl hol HK
    have HOL:Hid ((fltK cc N k).on.length=N):=by show _=_;simp [fltK];omega
    have UC0:Blk wr w.heap.size #[.int .i64 N,.int .i64 x1,.int .i64 x2,.int .i64 x3,.int .i64 x4,.int .i64 x5,.int .i64 x6,.int .i64 x7,.int .i64 x8,.int .i64 x9,.int .i64 x10] 26:=HCN.out.2.2 ▸ HCF.out
    obtain ⟨obc,OB0⟩:=own_blk HRB.out
    have nob:¬ (w.heap.size=ob):=Blk.ne UC0 OB0 (by decide)
    have nob':¬ (ob=w.heap.size):=fun e=>nob e.symm
    have obl:=OB0.lt
    clear OB0 obc
    go_wp2_with fail
    refine (HPL.out _ below_byR).mono ?_;rintro e w2 ⟨rfl,hb2⟩;have z_w2:=hb2.size;(try simp at z_w2);obtain ⟨yw2aa,cw2aa,fw2aa,rw2aa,tw2aa,pw2aa⟩:=bq hb2 (wr.heap.size)
    by_cases k3:k<3
    case pos =>
     have k4:(k:Int)<3:=by omega
     obtain ⟨kk,hba⟩:∃ kk,ballE x y 10=(⟨e1,e2,e3,e4,e5⟩,kk):=by
      have:=HE.out
      unfold ellAt at this
      rw [if_pos k3,hx,hy] at this
      exact ⟨_,by rw [← this]⟩
     have HBA:=Lib.hid hba
     clear hba
     go_wp2_with fail
     refine (ellball_v x y 10 e1 e2 e3 e4 e5 kk HBA.out _).mono ?_;rintro e w3 ⟨rfl,hb3⟩;have z_w3:=hb3.size;(try simp at z_w3);obtain ⟨yw3aa,cw3aa,fw3aa,rw3aa,tw3aa,pw3aa⟩:=bq hb3 (wr.heap.size);obtain ⟨yw3ba,cw3ba,fw3ba,rw3ba,tw3ba,pw3ba⟩:=bq hb3 (w2.heap.size)
     go_wp2_with fail
     refine name_wp ?_;intro u hu
     have BE5:Blk u wr.heap.size #[.int .i64 e1,.int .i64 e2,.int .i64 e3,.int .i64 e4,.int .i64 e5] 35:=by
      rw [hu]
      have XX:Blk w3 wr.heap.size #[.int .i64 0,.int .i64 0,.int .i64 0,.int .i64 0,.int .i64 0] 35:=Blk.keep ((Blk.keep (Blk.new wr _ _) hb2).alloc _) hb3
      exact ses_set5 0 XX _ _ _ _ _
     have HU:Hid (Below wr.heap.size wr u):=by rw [hu];show Below _ _ _;exact below_byR
     have UC:Blk u w.heap.size #[.int .i64 N,.int .i64 x1,.int .i64 x2,.int .i64 x3,.int .i64 x4,.int .i64 x5,.int .i64 x6,.int .i64 x7,.int .i64 x8,.int .i64 x9,.int .i64 x10] 26:=UC0.keep HU.out
     have UF:Blk u g (flC (fltK cc N k) tw ta (.slice an k cn) (.slice (some ⟨ob,0,none⟩) N co)) 73:=HIN.out.blk.keep HU.out
     have q14:u.cell? ⟨g,14,none⟩=some (.slice (some ⟨ob,0,none⟩) N co):=UF.cell rfl
     have q13:u.cell? ⟨g,13,none⟩=some (.slice an k cn):=UF.cell rfl
     have qf:=UF.frozen
     have qy:=UF.lt
     have huz:=HU.out.size
     have ngc:¬ (w.heap.size=g):=Blk.ne UC UF (by decide)
     have ngc':¬ (g=w.heap.size):=fun e=>ngc e.symm
     clear UF
     have HNW:Hid (∀ w1,Below u.heap.size u w1→Calls Tryz.prog 56 #[.agg #[.int .i64 N,.int .i64 x1,.int .i64 x2,.int .i64 x3,.int .i64 x4,.int .i64 x5,.int .i64 x6,.int .i64 x7,.int .i64 x8,.int .i64 x9,.int .i64 x10],.int .i64 k,.int .i64 0,elC e1 e2 e3 e4 e5] w1 fun e w'=>∃ gN L,e = .returned (ptr gN)∧NodeAt (fun j=>wr.heap.size≤j) w' gN L (.new cc k 0 (ellAt k))∧Below w1.heap.size w1 w'):=fun w1 hb=>by
      have h1:=nodeNew_at cc HCN.out.2.1 k (by omega) w1
      rw [HE.out] at h1
      have ec:cfgV cc = .agg #[.int .i64 N,.int .i64 x1,.int .i64 x2,.int .i64 x3,.int .i64 x4,.int .i64 x5,.int .i64 x6,.int .i64 x7,.int .i64 x8,.int .i64 x9,.int .i64 x10]:=by show Value.agg (cfgL cc).toArray=_;rw [HCN.out.2.2]
      rw [ec] at h1
      refine h1.mono ?_
      rintro e w' ⟨gN,L,rfl,h2,h3⟩
      refine ⟨gN,L,rfl,?_,h3⟩
      rw [HE.out]
      exact h2.mono (fun j _ hj=>by
       have hj:w1.heap.size≤j:=hj
       have:=hb.size
       show wr.heap.size≤j
       omega)
     clear hu
     refine wp_region_noPanic ?_
     refine wp_region_held_drew (S:=(fun w'=>(w'.cell? ⟨w.heap.size,0,none⟩=some (.int .i64 N)∧w'.cell? ⟨w.heap.size,1,none⟩=some (.int .i64 x1)∧w'.cell? ⟨w.heap.size,2,none⟩=some (.int .i64 x2)∧w'.cell? ⟨w.heap.size,3,none⟩=some (.int .i64 x3)∧w'.cell? ⟨w.heap.size,4,none⟩=some (.int .i64 x4)∧w'.cell? ⟨w.heap.size,5,none⟩=some (.int .i64 x5)∧w'.cell? ⟨w.heap.size,6,none⟩=some (.int .i64 x6)∧w'.cell? ⟨w.heap.size,7,none⟩=some (.int .i64 x7)∧w'.cell? ⟨w.heap.size,8,none⟩=some (.int .i64 x8)∧w'.cell? ⟨w.heap.size,9,none⟩=some (.int .i64 x9)∧w'.cell? ⟨w.heap.size,10,none⟩=some (.int .i64 x10))∧(w'.cell? ⟨wr.heap.size,0,none⟩=some (.int .i64 e1)∧w'.cell? ⟨wr.heap.size,1,none⟩=some (.int .i64 e2)∧w'.cell? ⟨wr.heap.size,2,none⟩=some (.int .i64 e3)∧w'.cell? ⟨wr.heap.size,3,none⟩=some (.int .i64 e4)∧w'.cell? ⟨wr.heap.size,4,none⟩=some (.int .i64 e5))∧w'.cell? ⟨g,14,none⟩=some (.slice (some ⟨ob,0,none⟩) N co))) (by kernel_rfl) ?_ (fun hHeld=>?_)
     focus ((try dsimp only);exact ⟨cells11 (t:=26) (by repeat (first|with_reducible assumption|with_reducible exact Blk.new _ _ _|with_reducible refine Blk.alloc ?_ _|with_reducible refine Blk.drew ?_|(with_reducible refine Blk.setCell_other ?_ ?hB _;case hB=>(first|omega|(simp;done)|(simp;omega)))|with_reducible refine Blk.setCell_same ?_ _ _|with_reducible refine Blk.keep ?_ (by assumption))),cells5 (t:=35) (by repeat (first|with_reducible assumption|with_reducible exact Blk.new _ _ _|with_reducible refine Blk.alloc ?_ _|with_reducible refine Blk.drew ?_|(with_reducible refine Blk.setCell_other ?_ ?hB _;case hB=>(first|omega|(simp;done)|(simp;omega)))|with_reducible refine Blk.setCell_same ?_ _ _|with_reducible refine Blk.keep ?_ (by assumption))),by go_simp⟩)
     refine wpAnyH_take (i:=0) (oi:=_) (v:=?_) rfl (by kernel_rfl) (by kernel_rfl) (by kernel_rfl) (fun _ _ _ h=>h) (Or.inl ⟨by rfl,?_⟩) (by assumption) ?_
     rotate_left
     focus (intro wx hSw;(try dsimp only at hSw);go_simp;try with_reducible rfl)
     try simp only [Act.put,List.setIfInBounds_toArray,List.set_cons_zero,List.set_cons_succ]
     refine wpAnyH_take (i:=1) (oi:=_) (v:=?_) rfl (by kernel_rfl) (by kernel_rfl) (by kernel_rfl) (fun _ _ _ h=>h) (Or.inl ⟨by rfl,?_⟩) (by assumption) ?_
     rotate_left
     focus (intro wx hSw;(try dsimp only at hSw);go_simp;try with_reducible rfl)
     try simp only [Act.put,List.setIfInBounds_toArray,List.set_cons_zero,List.set_cons_succ]
     refine wpAnyH_take (i:=2) (oi:=_) (v:=?_) rfl (by kernel_rfl) (by kernel_rfl) (by kernel_rfl) (fun _ _ _ h=>h) (Or.inl ⟨by rfl,?_⟩) (by assumption) ?_
     rotate_left
     focus (intro wx hSw;(try dsimp only at hSw);go_simp;try with_reducible rfl)
     try simp only [Act.put,List.setIfInBounds_toArray,List.set_cons_zero,List.set_cons_succ]
     refine wpAnyH_take (i:=3) (oi:=_) (v:=?_) rfl (by kernel_rfl) (by kernel_rfl) (by kernel_rfl) (fun _ _ _ h=>h) (Or.inl ⟨by rfl,?_⟩) (by assumption) ?_
     rotate_left
     focus (intro wx hSw;(try dsimp only at hSw);go_simp;try with_reducible rfl)
     try simp only [Act.put,List.setIfInBounds_toArray,List.set_cons_zero,List.set_cons_succ]
     refine wpAnyH_take (i:=4) (oi:=_) (v:=?_) rfl (by kernel_rfl) (by kernel_rfl) (by kernel_rfl) (fun _ _ _ h=>h) (Or.inl ⟨by rfl,?_⟩) (by assumption) ?_
     rotate_left
     focus (intro wx hSw;(try dsimp only at hSw);go_simp;try with_reducible rfl)
     try simp only [Act.put,List.setIfInBounds_toArray,List.set_cons_zero,List.set_cons_succ]
     refine wpAnyH_take (i:=5) (oi:=_) (v:=?_) rfl (by kernel_rfl) (by kernel_rfl) (by kernel_rfl) (fun _ _ _ h=>h) (Or.inl ⟨by rfl,?_⟩) (by assumption) ?_
     rotate_left
     focus (intro wx hSw;(try dsimp only at hSw);go_simp;try with_reducible rfl)
     try simp only [Act.put,List.setIfInBounds_toArray,List.set_cons_zero,List.set_cons_succ]
     refine wpAnyH_take (i:=6) (oi:=_) (v:=?_) rfl (by kernel_rfl) (by kernel_rfl) (by kernel_rfl) (fun _ _ _ h=>h) (Or.inl ⟨by rfl,?_⟩) (by assumption) ?_
     rotate_left
     focus (intro wx hSw;(try dsimp only at hSw);go_simp;try with_reducible rfl)
     try simp only [Act.put,List.setIfInBounds_toArray,List.set_cons_zero,List.set_cons_succ]
     refine wpAnyH_take (i:=7) (oi:=_) (v:=?_) rfl (by kernel_rfl) (by kernel_rfl) (by kernel_rfl) (fun _ _ _ h=>h) (Or.inl ⟨by rfl,?_⟩) (by assumption) ?_
     rotate_left
     focus (intro wx hSw;(try dsimp only at hSw);go_simp;try with_reducible rfl)
     try simp only [Act.put,List.setIfInBounds_toArray,List.set_cons_zero,List.set_cons_succ]
     refine wpAnyH_take (i:=8) (oi:=_) (v:=?_) rfl (by kernel_rfl) (by kernel_rfl) (by kernel_rfl) (fun _ _ _ h=>h) (Or.inl ⟨by rfl,?_⟩) (by assumption) ?_
     rotate_left
     focus (intro wx hSw;(try dsimp only at hSw);go_simp;try with_reducible rfl)
     try simp only [Act.put,List.setIfInBounds_toArray,List.set_cons_zero,List.set_cons_succ]
     refine wpAnyH_take (i:=10) (oi:=_) (v:=?_) rfl (by kernel_rfl) (by kernel_rfl) (by kernel_rfl) (fun _ _ _ h=>h) (Or.inl ⟨by rfl,?_⟩) (by assumption) ?_
     rotate_left
     focus (intro wx hSw;(try dsimp only at hSw);go_simp;try with_reducible rfl)
     try simp only [Act.put,List.setIfInBounds_toArray,List.set_cons_zero,List.set_cons_succ]
     refine wpAnyH_take (i:=11) (oi:=_) (v:=?_) rfl (by kernel_rfl) (by kernel_rfl) (by kernel_rfl) (fun _ _ _ h=>h) (Or.inl ⟨by rfl,?_⟩) (by assumption) ?_
     rotate_left
     focus (intro wx hSw;(try dsimp only at hSw);go_simp;try with_reducible rfl)
     try simp only [Act.put,List.setIfInBounds_toArray,List.set_cons_zero,List.set_cons_succ]
     refine wpAnyH_take (i:=12) (oi:=_) (v:=?_) rfl (by kernel_rfl) (by kernel_rfl) (by kernel_rfl) (fun _ _ _ h=>h) (Or.inl ⟨by rfl,?_⟩) (by assumption) ?_
     rotate_left
     focus (intro wx hSw;(try dsimp only at hSw);go_simp;try with_reducible rfl)
     try simp only [Act.put,List.setIfInBounds_toArray,List.set_cons_zero,List.set_cons_succ]
     refine wpAnyH_ready (rs:=[9,13]) (by kernel_rfl) (by simp) ?_
     refine AllReadyH.cons (o:=_) (head_at rfl) (fun K hK=>?_) ?_
     focus
      go_simp
      refine hK.out _ _ ?_ (fun hHeld=>?_)
      focus ((try dsimp only);exact ⟨cells11 (t:=26) (by repeat (first|with_reducible assumption|with_reducible exact Blk.new _ _ _|with_reducible refine Blk.alloc ?_ _|with_reducible refine Blk.drew ?_|(with_reducible refine Blk.setCell_other ?_ ?hB _;case hB=>(first|omega|(simp;done)|(simp;omega)))|with_reducible refine Blk.setCell_same ?_ _ _|with_reducible refine Blk.keep ?_ (by assumption))),cells5 (t:=35) (by repeat (first|with_reducible assumption|with_reducible exact Blk.new _ _ _|with_reducible refine Blk.alloc ?_ _|with_reducible refine Blk.drew ?_|(with_reducible refine Blk.setCell_other ?_ ?hB _;case hB=>(first|omega|(simp;done)|(simp;omega)))|with_reducible refine Blk.setCell_same ?_ _ _|with_reducible refine Blk.keep ?_ (by assumption))),by go_simp⟩)
      clear hK K
      try simp only [Act.put,List.setIfInBounds_toArray,List.set_cons_zero,List.set_cons_succ]
      refine wpAnyH_ready (rs:=[13]) (by kernel_rfl) (by simp) ?_
      refine AllReadyH.cons (o:=_) (head_at rfl) (fun K hK=>?_) ?_
      focus
       go_simp;(go_at_call 56;refine (HNW.out _ below_byR).mono ?_;rintro e w6 ⟨gN,L,rfl,hN,hb6⟩;have z_w6:=hb6.size;(try simp at z_w6);obtain ⟨y_w6_g,c_w6_g,f_w6_g,r_w6_g,t_w6_g,p_w6_g⟩:=bq hb6 (g);have UC6:Blk w6 w.heap.size #[.int .i64 N,.int .i64 x1,.int .i64 x2,.int .i64 x3,.int .i64 x4,.int .i64 x5,.int .i64 x6,.int .i64 x7,.int .i64 x8,.int .i64 x9,.int .i64 x10] 26:=(by refine Blk.keep ?_ hb6;exact (by repeat (first|with_reducible assumption|with_reducible exact Blk.new _ _ _|with_reducible refine Blk.alloc ?_ _|with_reducible refine Blk.drew ?_|(with_reducible refine Blk.setCell_other ?_ ?hB _;case hB=>(first|omega|(simp;done)|(simp;omega)))|with_reducible refine Blk.setCell_same ?_ _ _|with_reducible refine Blk.keep ?_ (by assumption))));have BE6:Blk w6 wr.heap.size #[.int .i64 e1,.int .i64 e2,.int .i64 e3,.int .i64 e4,.int .i64 e5] 35:=(by refine Blk.keep ?_ hb6;exact (by repeat (first|with_reducible assumption|with_reducible exact Blk.new _ _ _|with_reducible refine Blk.alloc ?_ _|with_reducible refine Blk.drew ?_|(with_reducible refine Blk.setCell_other ?_ ?hB _;case hB=>(first|omega|(simp;done)|(simp;omega)))|with_reducible refine Blk.setCell_same ?_ _ _|with_reducible refine Blk.keep ?_ (by assumption)))));try go_wp2_with fail
       refine hK.out _ _ ?_ (fun hHeld=>?_)
       focus ((try dsimp only);exact ⟨cells11 (t:=26) (by repeat (first|with_reducible assumption|with_reducible exact Blk.new _ _ _|with_reducible refine Blk.alloc ?_ _|with_reducible refine Blk.drew ?_|(with_reducible refine Blk.setCell_other ?_ ?hB _;case hB=>(first|omega|(simp;done)|(simp;omega)))|with_reducible refine Blk.setCell_same ?_ _ _|with_reducible refine Blk.keep ?_ (by assumption))),cells5 (t:=35) (by repeat (first|with_reducible assumption|with_reducible exact Blk.new _ _ _|with_reducible refine Blk.alloc ?_ _|with_reducible refine Blk.drew ?_|(with_reducible refine Blk.setCell_other ?_ ?hB _;case hB=>(first|omega|(simp;done)|(simp;omega)))|with_reducible refine Blk.setCell_same ?_ _ _|with_reducible refine Blk.keep ?_ (by assumption))),by go_simp⟩)
       clear hK K
       try simp only [Act.put,List.setIfInBounds_toArray,List.set_cons_zero,List.set_cons_succ]
       refine wpAnyH_ready (rs:=[14]) (by kernel_rfl) (by simp) ?_
       refine AllReadyH.cons (o:=_) (head_at rfl) (fun K hK=>?_) ?_
       focus
        go_simp
        refine hK.out _ _ ?_ (fun hHeld=>?_)
        focus ((try dsimp only);exact ⟨cells11 (t:=26) (by repeat (first|with_reducible assumption|with_reducible exact Blk.new _ _ _|with_reducible refine Blk.alloc ?_ _|with_reducible refine Blk.drew ?_|(with_reducible refine Blk.setCell_other ?_ ?hB _;case hB=>(first|omega|(simp;done)|(simp;omega)))|with_reducible refine Blk.setCell_same ?_ _ _|with_reducible refine Blk.keep ?_ (by assumption))),cells5 (t:=35) (by repeat (first|with_reducible assumption|with_reducible exact Blk.new _ _ _|with_reducible refine Blk.alloc ?_ _|with_reducible refine Blk.drew ?_|(with_reducible refine Blk.setCell_other ?_ ?hB _;case hB=>(first|omega|(simp;done)|(simp;omega)))|with_reducible refine Blk.setCell_same ?_ _ _|with_reducible refine Blk.keep ?_ (by assumption))),by go_simp⟩)
        clear hK K
        try simp only [Act.put,List.setIfInBounds_toArray,List.set_cons_zero,List.set_cons_succ]
        refine wpAnyH_ready (rs:=[15]) (by kernel_rfl) (by simp) ?_
        refine AllReadyH.cons (o:=_) (head_at rfl) (fun K hK=>?_) ?_
        focus
         (refine step_append_own_at rfl (.tmp 50) (.tmp 55) 70 rfl 0 43 i0 (.pointer none) 1 8 Tryz.underlying70 hi hz0 hz1 hz2 rfl (by decide) (.slice an k cn) k (gs.map ptr) (by simp [Act.eval,Act.put]) (row_below HRN.out (show Below _ _ _ from below_byR)) ⟨w6.heap.size,0,none⟩ 1 1 [ptr gN] (by simp [Act.eval,Act.put]) rfl (news_of (Blk.new _ _ 43)) (ptr_one gN) (by unfold maxLen;omega) (by omega) (by simp) ?_;intro v' w5 hown hgrow hat;obtain ⟨g',cap2,rfl⟩:=own_some hown (by omega);obtain ⟨ya,⟨yb,yc⟩,yd,ye,yf,yg⟩:=new_mid (k:=k) HIN.out HOL.out hlt (by exact (show Below _ _ _ from below_byR)) hgrow;have UC5:Blk w5 w.heap.size #[.int .i64 N,.int .i64 x1,.int .i64 x2,.int .i64 x3,.int .i64 x4,.int .i64 x5,.int .i64 x6,.int .i64 x7,.int .i64 x8,.int .i64 x9,.int .i64 x10] 26:=blk_grown HIN.out (show Blk _ _ _ _ from (by repeat (first|with_reducible assumption|with_reducible exact Blk.new _ _ _|with_reducible refine Blk.alloc ?_ _|with_reducible refine Blk.drew ?_|(with_reducible refine Blk.setCell_other ?_ ?hB _;case hB=>(first|omega|(simp;done)|(simp;omega)))|with_reducible refine Blk.setCell_same ?_ _ _|with_reducible refine Blk.keep ?_ (by assumption)))) (by decide) (show Below _ _ _ from below_byR) hgrow;have BE5':Blk w5 wr.heap.size #[.int .i64 e1,.int .i64 e2,.int .i64 e3,.int .i64 e4,.int .i64 e5] 35:=blk_grown HIN.out (show Blk _ _ _ _ from (by repeat (first|with_reducible assumption|with_reducible exact Blk.new _ _ _|with_reducible refine Blk.alloc ?_ _|with_reducible refine Blk.drew ?_|(with_reducible refine Blk.setCell_other ?_ ?hB _;case hB=>(first|omega|(simp;done)|(simp;omega)))|with_reducible refine Blk.setCell_same ?_ _ _|with_reducible refine Blk.keep ?_ (by assumption)))) (by decide) (show Below _ _ _ from below_byR) hgrow;have yq:=ya.cell (i:=13) (v := .slice an k cn) rfl;have yq4:=ya.cell (i:=14) (v := .slice (some ⟨ob,0,none⟩) N co) rfl;have yqf:=ya.frozen;have yql:=ya.lt;have YE:=Lib.hid (new_end (N:=N) (w:=w) (cb:=w.heap.size) HCN.out.1 HIN.out hlt HBL.out H00.out HCF.out HC0.out (by exact (show Below _ _ _ from below_byR)) hN (by exact (show Below _ _ _ from below_byR)) hown hgrow hat);clear hown hgrow hat ya)
         refine hK.out _ _ ?_ (fun hHeld=>?_)
         focus ((try dsimp only);exact ⟨cells11 (t:=26) (by repeat (first|with_reducible assumption|with_reducible exact Blk.new _ _ _|with_reducible refine Blk.alloc ?_ _|with_reducible refine Blk.drew ?_|(with_reducible refine Blk.setCell_other ?_ ?hB _;case hB=>(first|omega|(simp;done)|(simp;omega)))|with_reducible refine Blk.setCell_same ?_ _ _|with_reducible refine Blk.keep ?_ (by assumption))),cells5 (t:=35) (by repeat (first|with_reducible assumption|with_reducible exact Blk.new _ _ _|with_reducible refine Blk.alloc ?_ _|with_reducible refine Blk.drew ?_|(with_reducible refine Blk.setCell_other ?_ ?hB _;case hB=>(first|omega|(simp;done)|(simp;omega)))|with_reducible refine Blk.setCell_same ?_ _ _|with_reducible refine Blk.keep ?_ (by assumption))),by go_simp⟩)
         clear hK K
         try simp only [Act.put,List.setIfInBounds_toArray,List.set_cons_zero,List.set_cons_succ]
         refine wpAnyH_take (i:=16) (oi:=_) (v:=?_) rfl (by kernel_rfl) (by kernel_rfl) (by kernel_rfl) (fun _ _ _ h=>h) (Or.inl ⟨by rfl,?_⟩) (by assumption) ?_
         rotate_left
         focus (intro wx hSw;(try dsimp only at hSw);go_simp;try with_reducible rfl)
         try simp only [Act.put,List.setIfInBounds_toArray,List.set_cons_zero,List.set_cons_succ]
         refine wpAnyH_take (i:=17) (oi:=_) (v:=?_) rfl (by kernel_rfl) (by kernel_rfl) (by kernel_rfl) (fun _ _ _ h=>h) (Or.inl ⟨by rfl,?_⟩) (by assumption) ?_
         rotate_left
         focus (intro wx hSw;(try dsimp only at hSw);go_simp;try with_reducible rfl)
         try simp only [Act.put,List.setIfInBounds_toArray,List.set_cons_zero,List.set_cons_succ]
         refine wpAnyH_ready (rs:=[18]) (by kernel_rfl) (by simp) ?_
         refine AllReadyH.cons (o:=_) (head_at rfl) (fun K hK=>?_) ?_
         focus
          go_simp
          refine hK.out _ _ ?_ (fun hHeld=>?_)
          focus ((try dsimp only);exact ⟨cells11 (t:=26) (by repeat (first|with_reducible assumption|with_reducible exact Blk.new _ _ _|with_reducible refine Blk.alloc ?_ _|with_reducible refine Blk.drew ?_|(with_reducible refine Blk.setCell_other ?_ ?hB _;case hB=>(first|omega|(simp;done)|(simp;omega)))|with_reducible refine Blk.setCell_same ?_ _ _|with_reducible refine Blk.keep ?_ (by assumption))),cells5 (t:=35) (by repeat (first|with_reducible assumption|with_reducible exact Blk.new _ _ _|with_reducible refine Blk.alloc ?_ _|with_reducible refine Blk.drew ?_|(with_reducible refine Blk.setCell_other ?_ ?hB _;case hB=>(first|omega|(simp;done)|(simp;omega)))|with_reducible refine Blk.setCell_same ?_ _ _|with_reducible refine Blk.keep ?_ (by assumption))),by go_simp⟩)
          clear hK K
          try simp only [Act.put,List.setIfInBounds_toArray,List.set_cons_zero,List.set_cons_succ]
          refine wpAnyH_take (i:=19) (oi:=_) (v:=?_) rfl (by kernel_rfl) (by kernel_rfl) (by kernel_rfl) (fun _ _ _ h=>h) (Or.inl ⟨by rfl,?_⟩) (by assumption) ?_
          rotate_left
          focus (intro wx hSw;(try dsimp only at hSw);go_simp;try with_reducible rfl)
          try simp only [Act.put,List.setIfInBounds_toArray,List.set_cons_zero,List.set_cons_succ]
          refine wpAnyH_ready (rs:=[20]) (by kernel_rfl) (by simp) ?_
          refine AllReadyH.cons (o:=_) (head_at rfl) (fun K hK=>?_) ?_
          focus
           go_simp
           refine hK.out _ _ ?_ (fun hHeld=>?_)
           focus ((try dsimp only);exact ⟨cells11 (t:=26) (by repeat (first|with_reducible assumption|with_reducible exact Blk.new _ _ _|with_reducible refine Blk.alloc ?_ _|with_reducible refine Blk.drew ?_|(with_reducible refine Blk.setCell_other ?_ ?hB _;case hB=>(first|omega|(simp;done)|(simp;omega)))|with_reducible refine Blk.setCell_same ?_ _ _|with_reducible refine Blk.keep ?_ (by assumption))),cells5 (t:=35) (by repeat (first|with_reducible assumption|with_reducible exact Blk.new _ _ _|with_reducible refine Blk.alloc ?_ _|with_reducible refine Blk.drew ?_|(with_reducible refine Blk.setCell_other ?_ ?hB _;case hB=>(first|omega|(simp;done)|(simp;omega)))|with_reducible refine Blk.setCell_same ?_ _ _|with_reducible refine Blk.keep ?_ (by assumption))),by go_simp⟩)
           clear hK K
           try simp only [Act.put,List.setIfInBounds_toArray,List.set_cons_zero,List.set_cons_succ]
           refine wpAnyH_done (by kernel_rfl) ?_ _
           refine NoPanic.normal ?_
           go_wp2_with fail
           go_roundw
           all_goals first|exact ⟨k+1,by omega,rfl,YE⟩|exact (by first|(simp [intOf];done)|(simp [intOf];omega))
          exact AllReadyH.nil
         exact AllReadyH.nil
        exact AllReadyH.nil
       exact AllReadyH.nil
      exact AllReadyH.nil
     refine AllReadyH.cons (o:=_) (head_at rfl) (fun K hK=>?_) ?_
     focus
      go_simp;(go_at_call 56;refine (HNW.out _ below_byR).mono ?_;rintro e w6 ⟨gN,L,rfl,hN,hb6⟩;have z_w6:=hb6.size;(try simp at z_w6);obtain ⟨y_w6_g,c_w6_g,f_w6_g,r_w6_g,t_w6_g,p_w6_g⟩:=bq hb6 (g);have UC6:Blk w6 w.heap.size #[.int .i64 N,.int .i64 x1,.int .i64 x2,.int .i64 x3,.int .i64 x4,.int .i64 x5,.int .i64 x6,.int .i64 x7,.int .i64 x8,.int .i64 x9,.int .i64 x10] 26:=(by refine Blk.keep ?_ hb6;exact (by repeat (first|with_reducible assumption|with_reducible exact Blk.new _ _ _|with_reducible refine Blk.alloc ?_ _|with_reducible refine Blk.drew ?_|(with_reducible refine Blk.setCell_other ?_ ?hB _;case hB=>(first|omega|(simp;done)|(simp;omega)))|with_reducible refine Blk.setCell_same ?_ _ _|with_reducible refine Blk.keep ?_ (by assumption))));have BE6:Blk w6 wr.heap.size #[.int .i64 e1,.int .i64 e2,.int .i64 e3,.int .i64 e4,.int .i64 e5] 35:=(by refine Blk.keep ?_ hb6;exact (by repeat (first|with_reducible assumption|with_reducible exact Blk.new _ _ _|with_reducible refine Blk.alloc ?_ _|with_reducible refine Blk.drew ?_|(with_reducible refine Blk.setCell_other ?_ ?hB _;case hB=>(first|omega|(simp;done)|(simp;omega)))|with_reducible refine Blk.setCell_same ?_ _ _|with_reducible refine Blk.keep ?_ (by assumption)))));try go_wp2_with fail
      refine hK.out _ _ ?_ (fun hHeld=>?_)
      focus ((try dsimp only);exact ⟨cells11 (t:=26) (by repeat (first|with_reducible assumption|with_reducible exact Blk.new _ _ _|with_reducible refine Blk.alloc ?_ _|with_reducible refine Blk.drew ?_|(with_reducible refine Blk.setCell_other ?_ ?hB _;case hB=>(first|omega|(simp;done)|(simp;omega)))|with_reducible refine Blk.setCell_same ?_ _ _|with_reducible refine Blk.keep ?_ (by assumption))),cells5 (t:=35) (by repeat (first|with_reducible assumption|with_reducible exact Blk.new _ _ _|with_reducible refine Blk.alloc ?_ _|with_reducible refine Blk.drew ?_|(with_reducible refine Blk.setCell_other ?_ ?hB _;case hB=>(first|omega|(simp;done)|(simp;omega)))|with_reducible refine Blk.setCell_same ?_ _ _|with_reducible refine Blk.keep ?_ (by assumption))),by go_simp⟩)
      clear hK K
      try simp only [Act.put,List.setIfInBounds_toArray,List.set_cons_zero,List.set_cons_succ]
      refine wpAnyH_ready (rs:=[9,14]) (by kernel_rfl) (by simp) ?_
      refine AllReadyH.cons (o:=_) (head_at rfl) (fun K hK=>?_) ?_
      focus
       go_simp
       refine hK.out _ _ ?_ (fun hHeld=>?_)
       focus ((try dsimp only);exact ⟨cells11 (t:=26) (by repeat (first|with_reducible assumption|with_reducible exact Blk.new _ _ _|with_reducible refine Blk.alloc ?_ _|with_reducible refine Blk.drew ?_|(with_reducible refine Blk.setCell_other ?_ ?hB _;case hB=>(first|omega|(simp;done)|(simp;omega)))|with_reducible refine Blk.setCell_same ?_ _ _|with_reducible refine Blk.keep ?_ (by assumption))),cells5 (t:=35) (by repeat (first|with_reducible assumption|with_reducible exact Blk.new _ _ _|with_reducible refine Blk.alloc ?_ _|with_reducible refine Blk.drew ?_|(with_reducible refine Blk.setCell_other ?_ ?hB _;case hB=>(first|omega|(simp;done)|(simp;omega)))|with_reducible refine Blk.setCell_same ?_ _ _|with_reducible refine Blk.keep ?_ (by assumption))),by go_simp⟩)
       clear hK K
       try simp only [Act.put,List.setIfInBounds_toArray,List.set_cons_zero,List.set_cons_succ]
       refine wpAnyH_ready (rs:=[14]) (by kernel_rfl) (by simp) ?_
       refine AllReadyH.cons (o:=_) (head_at rfl) (fun K hK=>?_) ?_
       focus
        go_simp
        refine hK.out _ _ ?_ (fun hHeld=>?_)
        focus ((try dsimp only);exact ⟨cells11 (t:=26) (by repeat (first|with_reducible assumption|with_reducible exact Blk.new _ _ _|with_reducible refine Blk.alloc ?_ _|with_reducible refine Blk.drew ?_|(with_reducible refine Blk.setCell_other ?_ ?hB _;case hB=>(first|omega|(simp;done)|(simp;omega)))|with_reducible refine Blk.setCell_same ?_ _ _|with_reducible refine Blk.keep ?_ (by assumption))),cells5 (t:=35) (by repeat (first|with_reducible assumption|with_reducible exact Blk.new _ _ _|with_reducible refine Blk.alloc ?_ _|with_reducible refine Blk.drew ?_|(with_reducible refine Blk.setCell_other ?_ ?hB _;case hB=>(first|omega|(simp;done)|(simp;omega)))|with_reducible refine Blk.setCell_same ?_ _ _|with_reducible refine Blk.keep ?_ (by assumption))),by go_simp⟩)
        clear hK K
        try simp only [Act.put,List.setIfInBounds_toArray,List.set_cons_zero,List.set_cons_succ]
        refine wpAnyH_ready (rs:=[15]) (by kernel_rfl) (by simp) ?_
        refine AllReadyH.cons (o:=_) (head_at rfl) (fun K hK=>?_) ?_
        focus
         (refine step_append_own_at rfl (.tmp 50) (.tmp 55) 70 rfl 0 43 i0 (.pointer none) 1 8 Tryz.underlying70 hi hz0 hz1 hz2 rfl (by decide) (.slice an k cn) k (gs.map ptr) (by simp [Act.eval,Act.put]) (row_below HRN.out (show Below _ _ _ from below_byR)) ⟨w6.heap.size,0,none⟩ 1 1 [ptr gN] (by simp [Act.eval,Act.put]) rfl (news_of (Blk.new _ _ 43)) (ptr_one gN) (by unfold maxLen;omega) (by omega) (by simp) ?_;intro v' w5 hown hgrow hat;obtain ⟨g',cap2,rfl⟩:=own_some hown (by omega);obtain ⟨ya,⟨yb,yc⟩,yd,ye,yf,yg⟩:=new_mid (k:=k) HIN.out HOL.out hlt (by exact (show Below _ _ _ from below_byR)) hgrow;have UC5:Blk w5 w.heap.size #[.int .i64 N,.int .i64 x1,.int .i64 x2,.int .i64 x3,.int .i64 x4,.int .i64 x5,.int .i64 x6,.int .i64 x7,.int .i64 x8,.int .i64 x9,.int .i64 x10] 26:=blk_grown HIN.out (show Blk _ _ _ _ from (by repeat (first|with_reducible assumption|with_reducible exact Blk.new _ _ _|with_reducible refine Blk.alloc ?_ _|with_reducible refine Blk.drew ?_|(with_reducible refine Blk.setCell_other ?_ ?hB _;case hB=>(first|omega|(simp;done)|(simp;omega)))|with_reducible refine Blk.setCell_same ?_ _ _|with_reducible refine Blk.keep ?_ (by assumption)))) (by decide) (show Below _ _ _ from below_byR) hgrow;have BE5':Blk w5 wr.heap.size #[.int .i64 e1,.int .i64 e2,.int .i64 e3,.int .i64 e4,.int .i64 e5] 35:=blk_grown HIN.out (show Blk _ _ _ _ from (by repeat (first|with_reducible assumption|with_reducible exact Blk.new _ _ _|with_reducible refine Blk.alloc ?_ _|with_reducible refine Blk.drew ?_|(with_reducible refine Blk.setCell_other ?_ ?hB _;case hB=>(first|omega|(simp;done)|(simp;omega)))|with_reducible refine Blk.setCell_same ?_ _ _|with_reducible refine Blk.keep ?_ (by assumption)))) (by decide) (show Below _ _ _ from below_byR) hgrow;have yq:=ya.cell (i:=13) (v := .slice an k cn) rfl;have yq4:=ya.cell (i:=14) (v := .slice (some ⟨ob,0,none⟩) N co) rfl;have yqf:=ya.frozen;have yql:=ya.lt;have YE:=Lib.hid (new_end (N:=N) (w:=w) (cb:=w.heap.size) HCN.out.1 HIN.out hlt HBL.out H00.out HCF.out HC0.out (by exact (show Below _ _ _ from below_byR)) hN (by exact (show Below _ _ _ from below_byR)) hown hgrow hat);clear hown hgrow hat ya)
         refine hK.out _ _ ?_ (fun hHeld=>?_)
         focus ((try dsimp only);exact ⟨cells11 (t:=26) (by repeat (first|with_reducible assumption|with_reducible exact Blk.new _ _ _|with_reducible refine Blk.alloc ?_ _|with_reducible refine Blk.drew ?_|(with_reducible refine Blk.setCell_other ?_ ?hB _;case hB=>(first|omega|(simp;done)|(simp;omega)))|with_reducible refine Blk.setCell_same ?_ _ _|with_reducible refine Blk.keep ?_ (by assumption))),cells5 (t:=35) (by repeat (first|with_reducible assumption|with_reducible exact Blk.new _ _ _|with_reducible refine Blk.alloc ?_ _|with_reducible refine Blk.drew ?_|(with_reducible refine Blk.setCell_other ?_ ?hB _;case hB=>(first|omega|(simp;done)|(simp;omega)))|with_reducible refine Blk.setCell_same ?_ _ _|with_reducible refine Blk.keep ?_ (by assumption))),by go_simp⟩)
         clear hK K
         try simp only [Act.put,List.setIfInBounds_toArray,List.set_cons_zero,List.set_cons_succ]
         refine wpAnyH_take (i:=16) (oi:=_) (v:=?_) rfl (by kernel_rfl) (by kernel_rfl) (by kernel_rfl) (fun _ _ _ h=>h) (Or.inl ⟨by rfl,?_⟩) (by assumption) ?_
         rotate_left
         focus (intro wx hSw;(try dsimp only at hSw);go_simp;try with_reducible rfl)
         try simp only [Act.put,List.setIfInBounds_toArray,List.set_cons_zero,List.set_cons_succ]
         refine wpAnyH_take (i:=17) (oi:=_) (v:=?_) rfl (by kernel_rfl) (by kernel_rfl) (by kernel_rfl) (fun _ _ _ h=>h) (Or.inl ⟨by rfl,?_⟩) (by assumption) ?_
         rotate_left
         focus (intro wx hSw;(try dsimp only at hSw);go_simp;try with_reducible rfl)
         try simp only [Act.put,List.setIfInBounds_toArray,List.set_cons_zero,List.set_cons_succ]
         refine wpAnyH_ready (rs:=[18]) (by kernel_rfl) (by simp) ?_
         refine AllReadyH.cons (o:=_) (head_at rfl) (fun K hK=>?_) ?_
         focus
          go_simp
          refine hK.out _ _ ?_ (fun hHeld=>?_)
          focus ((try dsimp only);exact ⟨cells11 (t:=26) (by repeat (first|with_reducible assumption|with_reducible exact Blk.new _ _ _|with_reducible refine Blk.alloc ?_ _|with_reducible refine Blk.drew ?_|(with_reducible refine Blk.setCell_other ?_ ?hB _;case hB=>(first|omega|(simp;done)|(simp;omega)))|with_reducible refine Blk.setCell_same ?_ _ _|with_reducible refine Blk.keep ?_ (by assumption))),cells5 (t:=35) (by repeat (first|with_reducible assumption|with_reducible exact Blk.new _ _ _|with_reducible refine Blk.alloc ?_ _|with_reducible refine Blk.drew ?_|(with_reducible refine Blk.setCell_other ?_ ?hB _;case hB=>(first|omega|(simp;done)|(simp;omega)))|with_reducible refine Blk.setCell_same ?_ _ _|with_reducible refine Blk.keep ?_ (by assumption))),by go_simp⟩)
          clear hK K
          try simp only [Act.put,List.setIfInBounds_toArray,List.set_cons_zero,List.set_cons_succ]
          refine wpAnyH_take (i:=19) (oi:=_) (v:=?_) rfl (by kernel_rfl) (by kernel_rfl) (by kernel_rfl) (fun _ _ _ h=>h) (Or.inl ⟨by rfl,?_⟩) (by assumption) ?_
          rotate_left
          focus (intro wx hSw;(try dsimp only at hSw);go_simp;try with_reducible rfl)
          try simp only [Act.put,List.setIfInBounds_toArray,List.set_cons_zero,List.set_cons_succ]
          refine wpAnyH_ready (rs:=[20]) (by kernel_rfl) (by simp) ?_
          refine AllReadyH.cons (o:=_) (head_at rfl) (fun K hK=>?_) ?_
          focus
           go_simp
           refine hK.out _ _ ?_ (fun hHeld=>?_)
           focus ((try dsimp only);exact ⟨cells11 (t:=26) (by repeat (first|with_reducible assumption|with_reducible exact Blk.new _ _ _|with_reducible refine Blk.alloc ?_ _|with_reducible refine Blk.drew ?_|(with_reducible refine Blk.setCell_other ?_ ?hB _;case hB=>(first|omega|(simp;done)|(simp;omega)))|with_reducible refine Blk.setCell_same ?_ _ _|with_reducible refine Blk.keep ?_ (by assumption))),cells5 (t:=35) (by repeat (first|with_reducible assumption|with_reducible exact Blk.new _ _ _|with_reducible refine Blk.alloc ?_ _|with_reducible refine Blk.drew ?_|(with_reducible refine Blk.setCell_other ?_ ?hB _;case hB=>(first|omega|(simp;done)|(simp;omega)))|with_reducible refine Blk.setCell_same ?_ _ _|with_reducible refine Blk.keep ?_ (by assumption))),by go_simp⟩)
           clear hK K
           try simp only [Act.put,List.setIfInBounds_toArray,List.set_cons_zero,List.set_cons_succ]
           refine wpAnyH_done (by kernel_rfl) ?_ _
           refine NoPanic.normal ?_
           go_wp2_with fail
           go_roundw
           all_goals first|exact ⟨k+1,by omega,rfl,YE⟩|exact (by first|(simp [intOf];done)|(simp [intOf];omega))
          exact AllReadyH.nil
         exact AllReadyH.nil
        exact AllReadyH.nil
       exact AllReadyH.nil
      refine AllReadyH.cons (o:=_) (head_at rfl) (fun K hK=>?_) ?_
      focus
       go_simp
       refine hK.out _ _ ?_ (fun hHeld=>?_)
       focus ((try dsimp only);exact ⟨cells11 (t:=26) (by repeat (first|with_reducible assumption|with_reducible exact Blk.new _ _ _|with_reducible refine Blk.alloc ?_ _|with_reducible refine Blk.drew ?_|(with_reducible refine Blk.setCell_other ?_ ?hB _;case hB=>(first|omega|(simp;done)|(simp;omega)))|with_reducible refine Blk.setCell_same ?_ _ _|with_reducible refine Blk.keep ?_ (by assumption))),cells5 (t:=35) (by repeat (first|with_reducible assumption|with_reducible exact Blk.new _ _ _|with_reducible refine Blk.alloc ?_ _|with_reducible refine Blk.drew ?_|(with_reducible refine Blk.setCell_other ?_ ?hB _;case hB=>(first|omega|(simp;done)|(simp;omega)))|with_reducible refine Blk.setCell_same ?_ _ _|with_reducible refine Blk.keep ?_ (by assumption))),by go_simp⟩)
       clear hK K
       try simp only [Act.put,List.setIfInBounds_toArray,List.set_cons_zero,List.set_cons_succ]
       refine wpAnyH_ready (rs:=[9]) (by kernel_rfl) (by simp) ?_
       refine AllReadyH.cons (o:=_) (head_at rfl) (fun K hK=>?_) ?_
       focus
        go_simp
        refine hK.out _ _ ?_ (fun hHeld=>?_)
        focus ((try dsimp only);exact ⟨cells11 (t:=26) (by repeat (first|with_reducible assumption|with_reducible exact Blk.new _ _ _|with_reducible refine Blk.alloc ?_ _|with_reducible refine Blk.drew ?_|(with_reducible refine Blk.setCell_other ?_ ?hB _;case hB=>(first|omega|(simp;done)|(simp;omega)))|with_reducible refine Blk.setCell_same ?_ _ _|with_reducible refine Blk.keep ?_ (by assumption))),cells5 (t:=35) (by repeat (first|with_reducible assumption|with_reducible exact Blk.new _ _ _|with_reducible refine Blk.alloc ?_ _|with_reducible refine Blk.drew ?_|(with_reducible refine Blk.setCell_other ?_ ?hB _;case hB=>(first|omega|(simp;done)|(simp;omega)))|with_reducible refine Blk.setCell_same ?_ _ _|with_reducible refine Blk.keep ?_ (by assumption))),by go_simp⟩)
        clear hK K
        try simp only [Act.put,List.setIfInBounds_toArray,List.set_cons_zero,List.set_cons_succ]
        refine wpAnyH_ready (rs:=[15]) (by kernel_rfl) (by simp) ?_
        refine AllReadyH.cons (o:=_) (head_at rfl) (fun K hK=>?_) ?_
        focus
         (refine step_append_own_at rfl (.tmp 50) (.tmp 55) 70 rfl 0 43 i0 (.pointer none) 1 8 Tryz.underlying70 hi hz0 hz1 hz2 rfl (by decide) (.slice an k cn) k (gs.map ptr) (by simp [Act.eval,Act.put]) (row_below HRN.out (show Below _ _ _ from below_byR)) ⟨w6.heap.size,0,none⟩ 1 1 [ptr gN] (by simp [Act.eval,Act.put]) rfl (news_of (Blk.new _ _ 43)) (ptr_one gN) (by unfold maxLen;omega) (by omega) (by simp) ?_;intro v' w5 hown hgrow hat;obtain ⟨g',cap2,rfl⟩:=own_some hown (by omega);obtain ⟨ya,⟨yb,yc⟩,yd,ye,yf,yg⟩:=new_mid (k:=k) HIN.out HOL.out hlt (by exact (show Below _ _ _ from below_byR)) hgrow;have UC5:Blk w5 w.heap.size #[.int .i64 N,.int .i64 x1,.int .i64 x2,.int .i64 x3,.int .i64 x4,.int .i64 x5,.int .i64 x6,.int .i64 x7,.int .i64 x8,.int .i64 x9,.int .i64 x10] 26:=blk_grown HIN.out (show Blk _ _ _ _ from (by repeat (first|with_reducible assumption|with_reducible exact Blk.new _ _ _|with_reducible refine Blk.alloc ?_ _|with_reducible refine Blk.drew ?_|(with_reducible refine Blk.setCell_other ?_ ?hB _;case hB=>(first|omega|(simp;done)|(simp;omega)))|with_reducible refine Blk.setCell_same ?_ _ _|with_reducible refine Blk.keep ?_ (by assumption)))) (by decide) (show Below _ _ _ from below_byR) hgrow;have BE5':Blk w5 wr.heap.size #[.int .i64 e1,.int .i64 e2,.int .i64 e3,.int .i64 e4,.int .i64 e5] 35:=blk_grown HIN.out (show Blk _ _ _ _ from (by repeat (first|with_reducible assumption|with_reducible exact Blk.new _ _ _|with_reducible refine Blk.alloc ?_ _|with_reducible refine Blk.drew ?_|(with_reducible refine Blk.setCell_other ?_ ?hB _;case hB=>(first|omega|(simp;done)|(simp;omega)))|with_reducible refine Blk.setCell_same ?_ _ _|with_reducible refine Blk.keep ?_ (by assumption)))) (by decide) (show Below _ _ _ from below_byR) hgrow;have yq:=ya.cell (i:=13) (v := .slice an k cn) rfl;have yq4:=ya.cell (i:=14) (v := .slice (some ⟨ob,0,none⟩) N co) rfl;have yqf:=ya.frozen;have yql:=ya.lt;have YE:=Lib.hid (new_end (N:=N) (w:=w) (cb:=w.heap.size) HCN.out.1 HIN.out hlt HBL.out H00.out HCF.out HC0.out (by exact (show Below _ _ _ from below_byR)) hN (by exact (show Below _ _ _ from below_byR)) hown hgrow hat);clear hown hgrow hat ya)
         refine hK.out _ _ ?_ (fun hHeld=>?_)
         focus ((try dsimp only);exact ⟨cells11 (t:=26) (by repeat (first|with_reducible assumption|with_reducible exact Blk.new _ _ _|with_reducible refine Blk.alloc ?_ _|with_reducible refine Blk.drew ?_|(with_reducible refine Blk.setCell_other ?_ ?hB _;case hB=>(first|omega|(simp;done)|(simp;omega)))|with_reducible refine Blk.setCell_same ?_ _ _|with_reducible refine Blk.keep ?_ (by assumption))),cells5 (t:=35) (by repeat (first|with_reducible assumption|with_reducible exact Blk.new _ _ _|with_reducible refine Blk.alloc ?_ _|with_reducible refine Blk.drew ?_|(with_reducible refine Blk.setCell_other ?_ ?hB _;case hB=>(first|omega|(simp;done)|(simp;omega)))|with_reducible refine Blk.setCell_same ?_ _ _|with_reducible refine Blk.keep ?_ (by assumption))),by go_simp⟩)
         clear hK K
         try simp only [Act.put,List.setIfInBounds_toArray,List.set_cons_zero,List.set_cons_succ]
         refine wpAnyH_take (i:=16) (oi:=_) (v:=?_) rfl (by kernel_rfl) (by kernel_rfl) (by kernel_rfl) (fun _ _ _ h=>h) (Or.inl ⟨by rfl,?_⟩) (by assumption) ?_
         rotate_left
         focus (intro wx hSw;(try dsimp only at hSw);go_simp;try with_reducible rfl)
         try simp only [Act.put,List.setIfInBounds_toArray,List.set_cons_zero,List.set_cons_succ]
         refine wpAnyH_take (i:=17) (oi:=_) (v:=?_) rfl (by kernel_rfl) (by kernel_rfl) (by kernel_rfl) (fun _ _ _ h=>h) (Or.inl ⟨by rfl,?_⟩) (by assumption) ?_
         rotate_left
         focus (intro wx hSw;(try dsimp only at hSw);go_simp;try with_reducible rfl)
         try simp only [Act.put,List.setIfInBounds_toArray,List.set_cons_zero,List.set_cons_succ]
         refine wpAnyH_ready (rs:=[18]) (by kernel_rfl) (by simp) ?_
         refine AllReadyH.cons (o:=_) (head_at rfl) (fun K hK=>?_) ?_
         focus
          go_simp
          refine hK.out _ _ ?_ (fun hHeld=>?_)
          focus ((try dsimp only);exact ⟨cells11 (t:=26) (by repeat (first|with_reducible assumption|with_reducible exact Blk.new _ _ _|with_reducible refine Blk.alloc ?_ _|with_reducible refine Blk.drew ?_|(with_reducible refine Blk.setCell_other ?_ ?hB _;case hB=>(first|omega|(simp;done)|(simp;omega)))|with_reducible refine Blk.setCell_same ?_ _ _|with_reducible refine Blk.keep ?_ (by assumption))),cells5 (t:=35) (by repeat (first|with_reducible assumption|with_reducible exact Blk.new _ _ _|with_reducible refine Blk.alloc ?_ _|with_reducible refine Blk.drew ?_|(with_reducible refine Blk.setCell_other ?_ ?hB _;case hB=>(first|omega|(simp;done)|(simp;omega)))|with_reducible refine Blk.setCell_same ?_ _ _|with_reducible refine Blk.keep ?_ (by assumption))),by go_simp⟩)
          clear hK K
          try simp only [Act.put,List.setIfInBounds_toArray,List.set_cons_zero,List.set_cons_succ]
          refine wpAnyH_take (i:=19) (oi:=_) (v:=?_) rfl (by kernel_rfl) (by kernel_rfl) (by kernel_rfl) (fun _ _ _ h=>h) (Or.inl ⟨by rfl,?_⟩) (by assumption) ?_
          rotate_left
          focus (intro wx hSw;(try dsimp only at hSw);go_simp;try with_reducible rfl)
          try simp only [Act.put,List.setIfInBounds_toArray,List.set_cons_zero,List.set_cons_succ]
          refine wpAnyH_ready (rs:=[20]) (by kernel_rfl) (by simp) ?_
          refine AllReadyH.cons (o:=_) (head_at rfl) (fun K hK=>?_) ?_
          focus
           go_simp
           refine hK.out _ _ ?_ (fun hHeld=>?_)
           focus ((try dsimp only);exact ⟨cells11 (t:=26) (by repeat (first|with_reducible assumption|with_reducible exact Blk.new _ _ _|with_reducible refine Blk.alloc ?_ _|with_reducible refine Blk.drew ?_|(with_reducible refine Blk.setCell_other ?_ ?hB _;case hB=>(first|omega|(simp;done)|(simp;omega)))|with_reducible refine Blk.setCell_same ?_ _ _|with_reducible refine Blk.keep ?_ (by assumption))),cells5 (t:=35) (by repeat (first|with_reducible assumption|with_reducible exact Blk.new _ _ _|with_reducible refine Blk.alloc ?_ _|with_reducible refine Blk.drew ?_|(with_reducible refine Blk.setCell_other ?_ ?hB _;case hB=>(first|omega|(simp;done)|(simp;omega)))|with_reducible refine Blk.setCell_same ?_ _ _|with_reducible refine Blk.keep ?_ (by assumption))),by go_simp⟩)
           clear hK K
           try simp only [Act.put,List.setIfInBounds_toArray,List.set_cons_zero,List.set_cons_succ]
           refine wpAnyH_done (by kernel_rfl) ?_ _
           refine NoPanic.normal ?_
           go_wp2_with fail
           go_roundw
           all_goals first|exact ⟨k+1,by omega,rfl,YE⟩|exact (by first|(simp [intOf];done)|(simp [intOf];omega))
          exact AllReadyH.nil
         exact AllReadyH.nil
        exact AllReadyH.nil
       exact AllReadyH.nil
      exact AllReadyH.nil
     exact AllReadyH.nil
    case neg =>
     have k4:¬ (k:Int)<3:=by omega
     have he0:e1=0∧e2=0∧e3=0∧e4=0∧e5=0:=by
      have:=HE.out
      unfold ellAt at this
      rw [if_neg k3] at this
      injection this with a1 a2 a3 a4 a5
      exact ⟨a1.symm,a2.symm,a3.symm,a4.symm,a5.symm⟩
     go_wp2_with fail
     refine name_wp ?_;intro u hu
     have BE5:Blk u wr.heap.size #[.int .i64 e1,.int .i64 e2,.int .i64 e3,.int .i64 e4,.int .i64 e5] 35:=by
      obtain ⟨rfl,rfl,rfl,rfl,rfl⟩:=he0
      rw [hu];exact (Blk.keep (Blk.new wr _ _) hb2).alloc _
     clear he0
     have HU:Hid (Below wr.heap.size wr u):=by rw [hu];show Below _ _ _;exact below_byR
     have UC:Blk u w.heap.size #[.int .i64 N,.int .i64 x1,.int .i64 x2,.int .i64 x3,.int .i64 x4,.int .i64 x5,.int .i64 x6,.int .i64 x7,.int .i64 x8,.int .i64 x9,.int .i64 x10] 26:=UC0.keep HU.out
     have UF:Blk u g (flC (fltK cc N k) tw ta (.slice an k cn) (.slice (some ⟨ob,0,none⟩) N co)) 73:=HIN.out.blk.keep HU.out
     have q14:u.cell? ⟨g,14,none⟩=some (.slice (some ⟨ob,0,none⟩) N co):=UF.cell rfl
     have q13:u.cell? ⟨g,13,none⟩=some (.slice an k cn):=UF.cell rfl
     have qf:=UF.frozen
     have qy:=UF.lt
     have huz:=HU.out.size
     have ngc:¬ (w.heap.size=g):=Blk.ne UC UF (by decide)
     have ngc':¬ (g=w.heap.size):=fun e=>ngc e.symm
     clear UF
     have HNW:Hid (∀ w1,Below u.heap.size u w1→Calls Tryz.prog 56 #[.agg #[.int .i64 N,.int .i64 x1,.int .i64 x2,.int .i64 x3,.int .i64 x4,.int .i64 x5,.int .i64 x6,.int .i64 x7,.int .i64 x8,.int .i64 x9,.int .i64 x10],.int .i64 k,.int .i64 0,elC e1 e2 e3 e4 e5] w1 fun e w'=>∃ gN L,e = .returned (ptr gN)∧NodeAt (fun j=>wr.heap.size≤j) w' gN L (.new cc k 0 (ellAt k))∧Below w1.heap.size w1 w'):=fun w1 hb=>by
      have h1:=nodeNew_at cc HCN.out.2.1 k (by omega) w1
      rw [HE.out] at h1
      have ec:cfgV cc = .agg #[.int .i64 N,.int .i64 x1,.int .i64 x2,.int .i64 x3,.int .i64 x4,.int .i64 x5,.int .i64 x6,.int .i64 x7,.int .i64 x8,.int .i64 x9,.int .i64 x10]:=by show Value.agg (cfgL cc).toArray=_;rw [HCN.out.2.2]
      rw [ec] at h1
      refine h1.mono ?_
      rintro e w' ⟨gN,L,rfl,h2,h3⟩
      refine ⟨gN,L,rfl,?_,h3⟩
      rw [HE.out]
      exact h2.mono (fun j _ hj=>by
       have hj:w1.heap.size≤j:=hj
       have:=hb.size
       show wr.heap.size≤j
       omega)
     clear hu
     refine wp_region_noPanic ?_
     refine wp_region_held_drew (S:=(fun w'=>(w'.cell? ⟨w.heap.size,0,none⟩=some (.int .i64 N)∧w'.cell? ⟨w.heap.size,1,none⟩=some (.int .i64 x1)∧w'.cell? ⟨w.heap.size,2,none⟩=some (.int .i64 x2)∧w'.cell? ⟨w.heap.size,3,none⟩=some (.int .i64 x3)∧w'.cell? ⟨w.heap.size,4,none⟩=some (.int .i64 x4)∧w'.cell? ⟨w.heap.size,5,none⟩=some (.int .i64 x5)∧w'.cell? ⟨w.heap.size,6,none⟩=some (.int .i64 x6)∧w'.cell? ⟨w.heap.size,7,none⟩=some (.int .i64 x7)∧w'.cell? ⟨w.heap.size,8,none⟩=some (.int .i64 x8)∧w'.cell? ⟨w.heap.size,9,none⟩=some (.int .i64 x9)∧w'.cell? ⟨w.heap.size,10,none⟩=some (.int .i64 x10))∧(w'.cell? ⟨wr.heap.size,0,none⟩=some (.int .i64 e1)∧w'.cell? ⟨wr.heap.size,1,none⟩=some (.int .i64 e2)∧w'.cell? ⟨wr.heap.size,2,none⟩=some (.int .i64 e3)∧w'.cell? ⟨wr.heap.size,3,none⟩=some (.int .i64 e4)∧w'.cell? ⟨wr.heap.size,4,none⟩=some (.int .i64 e5))∧w'.cell? ⟨g,14,none⟩=some (.slice (some ⟨ob,0,none⟩) N co))) (by kernel_rfl) ?_ (fun hHeld=>?_)
     focus ((try dsimp only);exact ⟨cells11 (t:=26) (by repeat (first|with_reducible assumption|with_reducible exact Blk.new _ _ _|with_reducible refine Blk.alloc ?_ _|with_reducible refine Blk.drew ?_|(with_reducible refine Blk.setCell_other ?_ ?hB _;case hB=>(first|omega|(simp;done)|(simp;omega)))|with_reducible refine Blk.setCell_same ?_ _ _|with_reducible refine Blk.keep ?_ (by assumption))),cells5 (t:=35) (by repeat (first|with_reducible assumption|with_reducible exact Blk.new _ _ _|with_reducible refine Blk.alloc ?_ _|with_reducible refine Blk.drew ?_|(with_reducible refine Blk.setCell_other ?_ ?hB _;case hB=>(first|omega|(simp;done)|(simp;omega)))|with_reducible refine Blk.setCell_same ?_ _ _|with_reducible refine Blk.keep ?_ (by assumption))),by go_simp⟩)
     refine wpAnyH_take (i:=0) (oi:=_) (v:=?_) rfl (by kernel_rfl) (by kernel_rfl) (by kernel_rfl) (fun _ _ _ h=>h) (Or.inl ⟨by rfl,?_⟩) (by assumption) ?_
     rotate_left
     focus (intro wx hSw;(try dsimp only at hSw);go_simp;try with_reducible rfl)
     try simp only [Act.put,List.setIfInBounds_toArray,List.set_cons_zero,List.set_cons_succ]
     refine wpAnyH_take (i:=1) (oi:=_) (v:=?_) rfl (by kernel_rfl) (by kernel_rfl) (by kernel_rfl) (fun _ _ _ h=>h) (Or.inl ⟨by rfl,?_⟩) (by assumption) ?_
     rotate_left
     focus (intro wx hSw;(try dsimp only at hSw);go_simp;try with_reducible rfl)
     try simp only [Act.put,List.setIfInBounds_toArray,List.set_cons_zero,List.set_cons_succ]
     refine wpAnyH_take (i:=2) (oi:=_) (v:=?_) rfl (by kernel_rfl) (by kernel_rfl) (by kernel_rfl) (fun _ _ _ h=>h) (Or.inl ⟨by rfl,?_⟩) (by assumption) ?_
     rotate_left
     focus (intro wx hSw;(try dsimp only at hSw);go_simp;try with_reducible rfl)
     try simp only [Act.put,List.setIfInBounds_toArray,List.set_cons_zero,List.set_cons_succ]
     refine wpAnyH_take (i:=3) (oi:=_) (v:=?_) rfl (by kernel_rfl) (by kernel_rfl) (by kernel_rfl) (fun _ _ _ h=>h) (Or.inl ⟨by rfl,?_⟩) (by assumption) ?_
     rotate_left
     focus (intro wx hSw;(try dsimp only at hSw);go_simp;try with_reducible rfl)
     try simp only [Act.put,List.setIfInBounds_toArray,List.set_cons_zero,List.set_cons_succ]
     refine wpAnyH_take (i:=4) (oi:=_) (v:=?_) rfl (by kernel_rfl) (by kernel_rfl) (by kernel_rfl) (fun _ _ _ h=>h) (Or.inl ⟨by rfl,?_⟩) (by assumption) ?_
     rotate_left
     focus (intro wx hSw;(try dsimp only at hSw);go_simp;try with_reducible rfl)
     try simp only [Act.put,List.setIfInBounds_toArray,List.set_cons_zero,List.set_cons_succ]
     refine wpAnyH_take (i:=5) (oi:=_) (v:=?_) rfl (by kernel_rfl) (by kernel_rfl) (by kernel_rfl) (fun _ _ _ h=>h) (Or.inl ⟨by rfl,?_⟩) (by assumption) ?_
     rotate_left
     focus (intro wx hSw;(try dsimp only at hSw);go_simp;try with_reducible rfl)
     try simp only [Act.put,List.setIfInBounds_toArray,List.set_cons_zero,List.set_cons_succ]
     refine wpAnyH_take (i:=6) (oi:=_) (v:=?_) rfl (by kernel_rfl) (by kernel_rfl) (by kernel_rfl) (fun _ _ _ h=>h) (Or.inl ⟨by rfl,?_⟩) (by assumption) ?_
     rotate_left
     focus (intro wx hSw;(try dsimp only at hSw);go_simp;try with_reducible rfl)
     try simp only [Act.put,List.setIfInBounds_toArray,List.set_cons_zero,List.set_cons_succ]
     refine wpAnyH_take (i:=7) (oi:=_) (v:=?_) rfl (by kernel_rfl) (by kernel_rfl) (by kernel_rfl) (fun _ _ _ h=>h) (Or.inl ⟨by rfl,?_⟩) (by assumption) ?_
     rotate_left
     focus (intro wx hSw;(try dsimp only at hSw);go_simp;try with_reducible rfl)
     try simp only [Act.put,List.setIfInBounds_toArray,List.set_cons_zero,List.set_cons_succ]
     refine wpAnyH_take (i:=8) (oi:=_) (v:=?_) rfl (by kernel_rfl) (by kernel_rfl) (by kernel_rfl) (fun _ _ _ h=>h) (Or.inl ⟨by rfl,?_⟩) (by assumption) ?_
     rotate_left
     focus (intro wx hSw;(try dsimp only at hSw);go_simp;try with_reducible rfl)
     try simp only [Act.put,List.setIfInBounds_toArray,List.set_cons_zero,List.set_cons_succ]
     refine wpAnyH_take (i:=10) (oi:=_) (v:=?_) rfl (by kernel_rfl) (by kernel_rfl) (by kernel_rfl) (fun _ _ _ h=>h) (Or.inl ⟨by rfl,?_⟩) (by assumption) ?_
     rotate_left
     focus (intro wx hSw;(try dsimp only at hSw);go_simp;try with_reducible rfl)
     try simp only [Act.put,List.setIfInBounds_toArray,List.set_cons_zero,List.set_cons_succ]
     refine wpAnyH_take (i:=11) (oi:=_) (v:=?_) rfl (by kernel_rfl) (by kernel_rfl) (by kernel_rfl) (fun _ _ _ h=>h) (Or.inl ⟨by rfl,?_⟩) (by assumption) ?_
     rotate_left
     focus (intro wx hSw;(try dsimp only at hSw);go_simp;try with_reducible rfl)
     try simp only [Act.put,List.setIfInBounds_toArray,List.set_cons_zero,List.set_cons_succ]
     refine wpAnyH_take (i:=12) (oi:=_) (v:=?_) rfl (by kernel_rfl) (by kernel_rfl) (by kernel_rfl) (fun _ _ _ h=>h) (Or.inl ⟨by rfl,?_⟩) (by assumption) ?_
     rotate_left
     focus (intro wx hSw;(try dsimp only at hSw);go_simp;try with_reducible rfl)
     try simp only [Act.put,List.setIfInBounds_toArray,List.set_cons_zero,List.set_cons_succ]
     refine wpAnyH_ready (rs:=[9,13]) (by kernel_rfl) (by simp) ?_
     refine AllReadyH.cons (o:=_) (head_at rfl) (fun K hK=>?_) ?_
     focus
      go_simp
      refine hK.out _ _ ?_ (fun hHeld=>?_)
      focus ((try dsimp only);exact ⟨cells11 (t:=26) (by repeat (first|with_reducible assumption|with_reducible exact Blk.new _ _ _|with_reducible refine Blk.alloc ?_ _|with_reducible refine Blk.drew ?_|(with_reducible refine Blk.setCell_other ?_ ?hB _;case hB=>(first|omega|(simp;done)|(simp;omega)))|with_reducible refine Blk.setCell_same ?_ _ _|with_reducible refine Blk.keep ?_ (by assumption))),cells5 (t:=35) (by repeat (first|with_reducible assumption|with_reducible exact Blk.new _ _ _|with_reducible refine Blk.alloc ?_ _|with_reducible refine Blk.drew ?_|(with_reducible refine Blk.setCell_other ?_ ?hB _;case hB=>(first|omega|(simp;done)|(simp;omega)))|with_reducible refine Blk.setCell_same ?_ _ _|with_reducible refine Blk.keep ?_ (by assumption))),by go_simp⟩)
      clear hK K
      try simp only [Act.put,List.setIfInBounds_toArray,List.set_cons_zero,List.set_cons_succ]
      refine wpAnyH_ready (rs:=[13]) (by kernel_rfl) (by simp) ?_
      refine AllReadyH.cons (o:=_) (head_at rfl) (fun K hK=>?_) ?_
      focus
       go_simp;(go_at_call 56;refine (HNW.out _ below_byR).mono ?_;rintro e w6 ⟨gN,L,rfl,hN,hb6⟩;have z_w6:=hb6.size;(try simp at z_w6);obtain ⟨y_w6_g,c_w6_g,f_w6_g,r_w6_g,t_w6_g,p_w6_g⟩:=bq hb6 (g);have UC6:Blk w6 w.heap.size #[.int .i64 N,.int .i64 x1,.int .i64 x2,.int .i64 x3,.int .i64 x4,.int .i64 x5,.int .i64 x6,.int .i64 x7,.int .i64 x8,.int .i64 x9,.int .i64 x10] 26:=(by refine Blk.keep ?_ hb6;exact (by repeat (first|with_reducible assumption|with_reducible exact Blk.new _ _ _|with_reducible refine Blk.alloc ?_ _|with_reducible refine Blk.drew ?_|(with_reducible refine Blk.setCell_other ?_ ?hB _;case hB=>(first|omega|(simp;done)|(simp;omega)))|with_reducible refine Blk.setCell_same ?_ _ _|with_reducible refine Blk.keep ?_ (by assumption))));have BE6:Blk w6 wr.heap.size #[.int .i64 e1,.int .i64 e2,.int .i64 e3,.int .i64 e4,.int .i64 e5] 35:=(by refine Blk.keep ?_ hb6;exact (by repeat (first|with_reducible assumption|with_reducible exact Blk.new _ _ _|with_reducible refine Blk.alloc ?_ _|with_reducible refine Blk.drew ?_|(with_reducible refine Blk.setCell_other ?_ ?hB _;case hB=>(first|omega|(simp;done)|(simp;omega)))|with_reducible refine Blk.setCell_same ?_ _ _|with_reducible refine Blk.keep ?_ (by assumption)))));try go_wp2_with fail
       refine hK.out _ _ ?_ (fun hHeld=>?_)
       focus ((try dsimp only);exact ⟨cells11 (t:=26) (by repeat (first|with_reducible assumption|with_reducible exact Blk.new _ _ _|with_reducible refine Blk.alloc ?_ _|with_reducible refine Blk.drew ?_|(with_reducible refine Blk.setCell_other ?_ ?hB _;case hB=>(first|omega|(simp;done)|(simp;omega)))|with_reducible refine Blk.setCell_same ?_ _ _|with_reducible refine Blk.keep ?_ (by assumption))),cells5 (t:=35) (by repeat (first|with_reducible assumption|with_reducible exact Blk.new _ _ _|with_reducible refine Blk.alloc ?_ _|with_reducible refine Blk.drew ?_|(with_reducible refine Blk.setCell_other ?_ ?hB _;case hB=>(first|omega|(simp;done)|(simp;omega)))|with_reducible refine Blk.setCell_same ?_ _ _|with_reducible refine Blk.keep ?_ (by assumption))),by go_simp⟩)
       clear hK K
       try simp only [Act.put,List.setIfInBounds_toArray,List.set_cons_zero,List.set_cons_succ]
       refine wpAnyH_ready (rs:=[14]) (by kernel_rfl) (by simp) ?_
       refine AllReadyH.cons (o:=_) (head_at rfl) (fun K hK=>?_) ?_
       focus
        go_simp
        refine hK.out _ _ ?_ (fun hHeld=>?_)
        focus ((try dsimp only);exact ⟨cells11 (t:=26) (by repeat (first|with_reducible assumption|with_reducible exact Blk.new _ _ _|with_reducible refine Blk.alloc ?_ _|with_reducible refine Blk.drew ?_|(with_reducible refine Blk.setCell_other ?_ ?hB _;case hB=>(first|omega|(simp;done)|(simp;omega)))|with_reducible refine Blk.setCell_same ?_ _ _|with_reducible refine Blk.keep ?_ (by assumption))),cells5 (t:=35) (by repeat (first|with_reducible assumption|with_reducible exact Blk.new _ _ _|with_reducible refine Blk.alloc ?_ _|with_reducible refine Blk.drew ?_|(with_reducible refine Blk.setCell_other ?_ ?hB _;case hB=>(first|omega|(simp;done)|(simp;omega)))|with_reducible refine Blk.setCell_same ?_ _ _|with_reducible refine Blk.keep ?_ (by assumption))),by go_simp⟩)
        clear hK K
        try simp only [Act.put,List.setIfInBounds_toArray,List.set_cons_zero,List.set_cons_succ]
        refine wpAnyH_ready (rs:=[15]) (by kernel_rfl) (by simp) ?_
        refine AllReadyH.cons (o:=_) (head_at rfl) (fun K hK=>?_) ?_
        focus
         (refine step_append_own_at rfl (.tmp 50) (.tmp 55) 70 rfl 0 43 i0 (.pointer none) 1 8 Tryz.underlying70 hi hz0 hz1 hz2 rfl (by decide) (.slice an k cn) k (gs.map ptr) (by simp [Act.eval,Act.put]) (row_below HRN.out (show Below _ _ _ from below_byR)) ⟨w6.heap.size,0,none⟩ 1 1 [ptr gN] (by simp [Act.eval,Act.put]) rfl (news_of (Blk.new _ _ 43)) (ptr_one gN) (by unfold maxLen;omega) (by omega) (by simp) ?_;intro v' w5 hown hgrow hat;obtain ⟨g',cap2,rfl⟩:=own_some hown (by omega);obtain ⟨ya,⟨yb,yc⟩,yd,ye,yf,yg⟩:=new_mid (k:=k) HIN.out HOL.out hlt (by exact (show Below _ _ _ from below_byR)) hgrow;have UC5:Blk w5 w.heap.size #[.int .i64 N,.int .i64 x1,.int .i64 x2,.int .i64 x3,.int .i64 x4,.int .i64 x5,.int .i64 x6,.int .i64 x7,.int .i64 x8,.int .i64 x9,.int .i64 x10] 26:=blk_grown HIN.out (show Blk _ _ _ _ from (by repeat (first|with_reducible assumption|with_reducible exact Blk.new _ _ _|with_reducible refine Blk.alloc ?_ _|with_reducible refine Blk.drew ?_|(with_reducible refine Blk.setCell_other ?_ ?hB _;case hB=>(first|omega|(simp;done)|(simp;omega)))|with_reducible refine Blk.setCell_same ?_ _ _|with_reducible refine Blk.keep ?_ (by assumption)))) (by decide) (show Below _ _ _ from below_byR) hgrow;have BE5':Blk w5 wr.heap.size #[.int .i64 e1,.int .i64 e2,.int .i64 e3,.int .i64 e4,.int .i64 e5] 35:=blk_grown HIN.out (show Blk _ _ _ _ from (by repeat (first|with_reducible assumption|with_reducible exact Blk.new _ _ _|with_reducible refine Blk.alloc ?_ _|with_reducible refine Blk.drew ?_|(with_reducible refine Blk.setCell_other ?_ ?hB _;case hB=>(first|omega|(simp;done)|(simp;omega)))|with_reducible refine Blk.setCell_same ?_ _ _|with_reducible refine Blk.keep ?_ (by assumption)))) (by decide) (show Below _ _ _ from below_byR) hgrow;have yq:=ya.cell (i:=13) (v := .slice an k cn) rfl;have yq4:=ya.cell (i:=14) (v := .slice (some ⟨ob,0,none⟩) N co) rfl;have yqf:=ya.frozen;have yql:=ya.lt;have YE:=Lib.hid (new_end (N:=N) (w:=w) (cb:=w.heap.size) HCN.out.1 HIN.out hlt HBL.out H00.out HCF.out HC0.out (by exact (show Below _ _ _ from below_byR)) hN (by exact (show Below _ _ _ from below_byR)) hown hgrow hat);clear hown hgrow hat ya)
         refine hK.out _ _ ?_ (fun hHeld=>?_)
         focus ((try dsimp only);exact ⟨cells11 (t:=26) (by repeat (first|with_reducible assumption|with_reducible exact Blk.new _ _ _|with_reducible refine Blk.alloc ?_ _|with_reducible refine Blk.drew ?_|(with_reducible refine Blk.setCell_other ?_ ?hB _;case hB=>(first|omega|(simp;done)|(simp;omega)))|with_reducible refine Blk.setCell_same ?_ _ _|with_reducible refine Blk.keep ?_ (by assumption))),cells5 (t:=35) (by repeat (first|with_reducible assumption|with_reducible exact Blk.new _ _ _|with_reducible refine Blk.alloc ?_ _|with_reducible refine Blk.drew ?_|(with_reducible refine Blk.setCell_other ?_ ?hB _;case hB=>(first|omega|(simp;done)|(simp;omega)))|with_reducible refine Blk.setCell_same ?_ _ _|with_reducible refine Blk.keep ?_ (by assumption))),by go_simp⟩)
         clear hK K
         try simp only [Act.put,List.setIfInBounds_toArray,List.set_cons_zero,List.set_cons_succ]
         refine wpAnyH_take (i:=16) (oi:=_) (v:=?_) rfl (by kernel_rfl) (by kernel_rfl) (by kernel_rfl) (fun _ _ _ h=>h) (Or.inl ⟨by rfl,?_⟩) (by assumption) ?_
         rotate_left
         focus (intro wx hSw;(try dsimp only at hSw);go_simp;try with_reducible rfl)
         try simp only [Act.put,List.setIfInBounds_toArray,List.set_cons_zero,List.set_cons_succ]
         refine wpAnyH_take (i:=17) (oi:=_) (v:=?_) rfl (by kernel_rfl) (by kernel_rfl) (by kernel_rfl) (fun _ _ _ h=>h) (Or.inl ⟨by rfl,?_⟩) (by assumption) ?_
         rotate_left
         focus (intro wx hSw;(try dsimp only at hSw);go_simp;try with_reducible rfl)
         try simp only [Act.put,List.setIfInBounds_toArray,List.set_cons_zero,List.set_cons_succ]
         refine wpAnyH_ready (rs:=[18]) (by kernel_rfl) (by simp) ?_
         refine AllReadyH.cons (o:=_) (head_at rfl) (fun K hK=>?_) ?_
         focus
          go_simp
          refine hK.out _ _ ?_ (fun hHeld=>?_)
          focus ((try dsimp only);exact ⟨cells11 (t:=26) (by repeat (first|with_reducible assumption|with_reducible exact Blk.new _ _ _|with_reducible refine Blk.alloc ?_ _|with_reducible refine Blk.drew ?_|(with_reducible refine Blk.setCell_other ?_ ?hB _;case hB=>(first|omega|(simp;done)|(simp;omega)))|with_reducible refine Blk.setCell_same ?_ _ _|with_reducible refine Blk.keep ?_ (by assumption))),cells5 (t:=35) (by repeat (first|with_reducible assumption|with_reducible exact Blk.new _ _ _|with_reducible refine Blk.alloc ?_ _|with_reducible refine Blk.drew ?_|(with_reducible refine Blk.setCell_other ?_ ?hB _;case hB=>(first|omega|(simp;done)|(simp;omega)))|with_reducible refine Blk.setCell_same ?_ _ _|with_reducible refine Blk.keep ?_ (by assumption))),by go_simp⟩)
          clear hK K
          try simp only [Act.put,List.setIfInBounds_toArray,List.set_cons_zero,List.set_cons_succ]
          refine wpAnyH_take (i:=19) (oi:=_) (v:=?_) rfl (by kernel_rfl) (by kernel_rfl) (by kernel_rfl) (fun _ _ _ h=>h) (Or.inl ⟨by rfl,?_⟩) (by assumption) ?_
          rotate_left
          focus (intro wx hSw;(try dsimp only at hSw);go_simp;try with_reducible rfl)
          try simp only [Act.put,List.setIfInBounds_toArray,List.set_cons_zero,List.set_cons_succ]
          refine wpAnyH_ready (rs:=[20]) (by kernel_rfl) (by simp) ?_
          refine AllReadyH.cons (o:=_) (head_at rfl) (fun K hK=>?_) ?_
          focus
           go_simp
           refine hK.out _ _ ?_ (fun hHeld=>?_)
           focus ((try dsimp only);exact ⟨cells11 (t:=26) (by repeat (first|with_reducible assumption|with_reducible exact Blk.new _ _ _|with_reducible refine Blk.alloc ?_ _|with_reducible refine Blk.drew ?_|(with_reducible refine Blk.setCell_other ?_ ?hB _;case hB=>(first|omega|(simp;done)|(simp;omega)))|with_reducible refine Blk.setCell_same ?_ _ _|with_reducible refine Blk.keep ?_ (by assumption))),cells5 (t:=35) (by repeat (first|with_reducible assumption|with_reducible exact Blk.new _ _ _|with_reducible refine Blk.alloc ?_ _|with_reducible refine Blk.drew ?_|(with_reducible refine Blk.setCell_other ?_ ?hB _;case hB=>(first|omega|(simp;done)|(simp;omega)))|with_reducible refine Blk.setCell_same ?_ _ _|with_reducible refine Blk.keep ?_ (by assumption))),by go_simp⟩)
           clear hK K
           try simp only [Act.put,List.setIfInBounds_toArray,List.set_cons_zero,List.set_cons_succ]
           refine wpAnyH_done (by kernel_rfl) ?_ _
           refine NoPanic.normal ?_
           go_wp2_with fail
           go_roundw
           all_goals first|exact ⟨k+1,by omega,rfl,YE⟩|exact (by first|(simp [intOf];done)|(simp [intOf];omega))
          exact AllReadyH.nil
         exact AllReadyH.nil
        exact AllReadyH.nil
       exact AllReadyH.nil
      exact AllReadyH.nil
     refine AllReadyH.cons (o:=_) (head_at rfl) (fun K hK=>?_) ?_
     focus
      go_simp;(go_at_call 56;refine (HNW.out _ below_byR).mono ?_;rintro e w6 ⟨gN,L,rfl,hN,hb6⟩;have z_w6:=hb6.size;(try simp at z_w6);obtain ⟨y_w6_g,c_w6_g,f_w6_g,r_w6_g,t_w6_g,p_w6_g⟩:=bq hb6 (g);have UC6:Blk w6 w.heap.size #[.int .i64 N,.int .i64 x1,.int .i64 x2,.int .i64 x3,.int .i64 x4,.int .i64 x5,.int .i64 x6,.int .i64 x7,.int .i64 x8,.int .i64 x9,.int .i64 x10] 26:=(by refine Blk.keep ?_ hb6;exact (by repeat (first|with_reducible assumption|with_reducible exact Blk.new _ _ _|with_reducible refine Blk.alloc ?_ _|with_reducible refine Blk.drew ?_|(with_reducible refine Blk.setCell_other ?_ ?hB _;case hB=>(first|omega|(simp;done)|(simp;omega)))|with_reducible refine Blk.setCell_same ?_ _ _|with_reducible refine Blk.keep ?_ (by assumption))));have BE6:Blk w6 wr.heap.size #[.int .i64 e1,.int .i64 e2,.int .i64 e3,.int .i64 e4,.int .i64 e5] 35:=(by refine Blk.keep ?_ hb6;exact (by repeat (first|with_reducible assumption|with_reducible exact Blk.new _ _ _|with_reducible refine Blk.alloc ?_ _|with_reducible refine Blk.drew ?_|(with_reducible refine Blk.setCell_other ?_ ?hB _;case hB=>(first|omega|(simp;done)|(simp;omega)))|with_reducible refine Blk.setCell_same ?_ _ _|with_reducible refine Blk.keep ?_ (by assumption)))));try go_wp2_with fail
      refine hK.out _ _ ?_ (fun hHeld=>?_)
      focus ((try dsimp only);exact ⟨cells11 (t:=26) (by repeat (first|with_reducible assumption|with_reducible exact Blk.new _ _ _|with_reducible refine Blk.alloc ?_ _|with_reducible refine Blk.drew ?_|(with_reducible refine Blk.setCell_other ?_ ?hB _;case hB=>(first|omega|(simp;done)|(simp;omega)))|with_reducible refine Blk.setCell_same ?_ _ _|with_reducible refine Blk.keep ?_ (by assumption))),cells5 (t:=35) (by repeat (first|with_reducible assumption|with_reducible exact Blk.new _ _ _|with_reducible refine Blk.alloc ?_ _|with_reducible refine Blk.drew ?_|(with_reducible refine Blk.setCell_other ?_ ?hB _;case hB=>(first|omega|(simp;done)|(simp;omega)))|with_reducible refine Blk.setCell_same ?_ _ _|with_reducible refine Blk.keep ?_ (by assumption))),by go_simp⟩)
      clear hK K
      try simp only [Act.put,List.setIfInBounds_toArray,List.set_cons_zero,List.set_cons_succ]
      refine wpAnyH_ready (rs:=[9,14]) (by kernel_rfl) (by simp) ?_
      refine AllReadyH.cons (o:=_) (head_at rfl) (fun K hK=>?_) ?_
      focus
       go_simp
       refine hK.out _ _ ?_ (fun hHeld=>?_)
       focus ((try dsimp only);exact ⟨cells11 (t:=26) (by repeat (first|with_reducible assumption|with_reducible exact Blk.new _ _ _|with_reducible refine Blk.alloc ?_ _|with_reducible refine Blk.drew ?_|(with_reducible refine Blk.setCell_other ?_ ?hB _;case hB=>(first|omega|(simp;done)|(simp;omega)))|with_reducible refine Blk.setCell_same ?_ _ _|with_reducible refine Blk.keep ?_ (by assumption))),cells5 (t:=35) (by repeat (first|with_reducible assumption|with_reducible exact Blk.new _ _ _|with_reducible refine Blk.alloc ?_ _|with_reducible refine Blk.drew ?_|(with_reducible refine Blk.setCell_other ?_ ?hB _;case hB=>(first|omega|(simp;done)|(simp;omega)))|with_reducible refine Blk.setCell_same ?_ _ _|with_reducible refine Blk.keep ?_ (by assumption))),by go_simp⟩)
       clear hK K
       try simp only [Act.put,List.setIfInBounds_toArray,List.set_cons_zero,List.set_cons_succ]
       refine wpAnyH_ready (rs:=[14]) (by kernel_rfl) (by simp) ?_
       refine AllReadyH.cons (o:=_) (head_at rfl) (fun K hK=>?_) ?_
       focus
        go_simp
        refine hK.out _ _ ?_ (fun hHeld=>?_)
        focus ((try dsimp only);exact ⟨cells11 (t:=26) (by repeat (first|with_reducible assumption|with_reducible exact Blk.new _ _ _|with_reducible refine Blk.alloc ?_ _|with_reducible refine Blk.drew ?_|(with_reducible refine Blk.setCell_other ?_ ?hB _;case hB=>(first|omega|(simp;done)|(simp;omega)))|with_reducible refine Blk.setCell_same ?_ _ _|with_reducible refine Blk.keep ?_ (by assumption))),cells5 (t:=35) (by repeat (first|with_reducible assumption|with_reducible exact Blk.new _ _ _|with_reducible refine Blk.alloc ?_ _|with_reducible refine Blk.drew ?_|(with_reducible refine Blk.setCell_other ?_ ?hB _;case hB=>(first|omega|(simp;done)|(simp;omega)))|with_reducible refine Blk.setCell_same ?_ _ _|with_reducible refine Blk.keep ?_ (by assumption))),by go_simp⟩)
        clear hK K
        try simp only [Act.put,List.setIfInBounds_toArray,List.set_cons_zero,List.set_cons_succ]
        refine wpAnyH_ready (rs:=[15]) (by kernel_rfl) (by simp) ?_
        refine AllReadyH.cons (o:=_) (head_at rfl) (fun K hK=>?_) ?_
        focus
         (refine step_append_own_at rfl (.tmp 50) (.tmp 55) 70 rfl 0 43 i0 (.pointer none) 1 8 Tryz.underlying70 hi hz0 hz1 hz2 rfl (by decide) (.slice an k cn) k (gs.map ptr) (by simp [Act.eval,Act.put]) (row_below HRN.out (show Below _ _ _ from below_byR)) ⟨w6.heap.size,0,none⟩ 1 1 [ptr gN] (by simp [Act.eval,Act.put]) rfl (news_of (Blk.new _ _ 43)) (ptr_one gN) (by unfold maxLen;omega) (by omega) (by simp) ?_;intro v' w5 hown hgrow hat;obtain ⟨g',cap2,rfl⟩:=own_some hown (by omega);obtain ⟨ya,⟨yb,yc⟩,yd,ye,yf,yg⟩:=new_mid (k:=k) HIN.out HOL.out hlt (by exact (show Below _ _ _ from below_byR)) hgrow;have UC5:Blk w5 w.heap.size #[.int .i64 N,.int .i64 x1,.int .i64 x2,.int .i64 x3,.int .i64 x4,.int .i64 x5,.int .i64 x6,.int .i64 x7,.int .i64 x8,.int .i64 x9,.int .i64 x10] 26:=blk_grown HIN.out (show Blk _ _ _ _ from (by repeat (first|with_reducible assumption|with_reducible exact Blk.new _ _ _|with_reducible refine Blk.alloc ?_ _|with_reducible refine Blk.drew ?_|(with_reducible refine Blk.setCell_other ?_ ?hB _;case hB=>(first|omega|(simp;done)|(simp;omega)))|with_reducible refine Blk.setCell_same ?_ _ _|with_reducible refine Blk.keep ?_ (by assumption)))) (by decide) (show Below _ _ _ from below_byR) hgrow;have BE5':Blk w5 wr.heap.size #[.int .i64 e1,.int .i64 e2,.int .i64 e3,.int .i64 e4,.int .i64 e5] 35:=blk_grown HIN.out (show Blk _ _ _ _ from (by repeat (first|with_reducible assumption|with_reducible exact Blk.new _ _ _|with_reducible refine Blk.alloc ?_ _|with_reducible refine Blk.drew ?_|(with_reducible refine Blk.setCell_other ?_ ?hB _;case hB=>(first|omega|(simp;done)|(simp;omega)))|with_reducible refine Blk.setCell_same ?_ _ _|with_reducible refine Blk.keep ?_ (by assumption)))) (by decide) (show Below _ _ _ from below_byR) hgrow;have yq:=ya.cell (i:=13) (v := .slice an k cn) rfl;have yq4:=ya.cell (i:=14) (v := .slice (some ⟨ob,0,none⟩) N co) rfl;have yqf:=ya.frozen;have yql:=ya.lt;have YE:=Lib.hid (new_end (N:=N) (w:=w) (cb:=w.heap.size) HCN.out.1 HIN.out hlt HBL.out H00.out HCF.out HC0.out (by exact (show Below _ _ _ from below_byR)) hN (by exact (show Below _ _ _ from below_byR)) hown hgrow hat);clear hown hgrow hat ya)
         refine hK.out _ _ ?_ (fun hHeld=>?_)
         focus ((try dsimp only);exact ⟨cells11 (t:=26) (by repeat (first|with_reducible assumption|with_reducible exact Blk.new _ _ _|with_reducible refine Blk.alloc ?_ _|with_reducible refine Blk.drew ?_|(with_reducible refine Blk.setCell_other ?_ ?hB _;case hB=>(first|omega|(simp;done)|(simp;omega)))|with_reducible refine Blk.setCell_same ?_ _ _|with_reducible refine Blk.keep ?_ (by assumption))),cells5 (t:=35) (by repeat (first|with_reducible assumption|with_reducible exact Blk.new _ _ _|with_reducible refine Blk.alloc ?_ _|with_reducible refine Blk.drew ?_|(with_reducible refine Blk.setCell_other ?_ ?hB _;case hB=>(first|omega|(simp;done)|(simp;omega)))|with_reducible refine Blk.setCell_same ?_ _ _|with_reducible refine Blk.keep ?_ (by assumption))),by go_simp⟩)
         clear hK K
         try simp only [Act.put,List.setIfInBounds_toArray,List.set_cons_zero,List.set_cons_succ]
         refine wpAnyH_take (i:=16) (oi:=_) (v:=?_) rfl (by kernel_rfl) (by kernel_rfl) (by kernel_rfl) (fun _ _ _ h=>h) (Or.inl ⟨by rfl,?_⟩) (by assumption) ?_
         rotate_left
         focus (intro wx hSw;(try dsimp only at hSw);go_simp;try with_reducible rfl)
         try simp only [Act.put,List.setIfInBounds_toArray,List.set_cons_zero,List.set_cons_succ]
         refine wpAnyH_take (i:=17) (oi:=_) (v:=?_) rfl (by kernel_rfl) (by kernel_rfl) (by kernel_rfl) (fun _ _ _ h=>h) (Or.inl ⟨by rfl,?_⟩) (by assumption) ?_
         rotate_left
         focus (intro wx hSw;(try dsimp only at hSw);go_simp;try with_reducible rfl)
         try simp only [Act.put,List.setIfInBounds_toArray,List.set_cons_zero,List.set_cons_succ]
         refine wpAnyH_ready (rs:=[18]) (by kernel_rfl) (by simp) ?_
         refine AllReadyH.cons (o:=_) (head_at rfl) (fun K hK=>?_) ?_
         focus
          go_simp
          refine hK.out _ _ ?_ (fun hHeld=>?_)
          focus ((try dsimp only);exact ⟨cells11 (t:=26) (by repeat (first|with_reducible assumption|with_reducible exact Blk.new _ _ _|with_reducible refine Blk.alloc ?_ _|with_reducible refine Blk.drew ?_|(with_reducible refine Blk.setCell_other ?_ ?hB _;case hB=>(first|omega|(simp;done)|(simp;omega)))|with_reducible refine Blk.setCell_same ?_ _ _|with_reducible refine Blk.keep ?_ (by assumption))),cells5 (t:=35) (by repeat (first|with_reducible assumption|with_reducible exact Blk.new _ _ _|with_reducible refine Blk.alloc ?_ _|with_reducible refine Blk.drew ?_|(with_reducible refine Blk.setCell_other ?_ ?hB _;case hB=>(first|omega|(simp;done)|(simp;omega)))|with_reducible refine Blk.setCell_same ?_ _ _|with_reducible refine Blk.keep ?_ (by assumption))),by go_simp⟩)
          clear hK K
          try simp only [Act.put,List.setIfInBounds_toArray,List.set_cons_zero,List.set_cons_succ]
          refine wpAnyH_take (i:=19) (oi:=_) (v:=?_) rfl (by kernel_rfl) (by kernel_rfl) (by kernel_rfl) (fun _ _ _ h=>h) (Or.inl ⟨by rfl,?_⟩) (by assumption) ?_
          rotate_left
          focus (intro wx hSw;(try dsimp only at hSw);go_simp;try with_reducible rfl)
          try simp only [Act.put,List.setIfInBounds_toArray,List.set_cons_zero,List.set_cons_succ]
          refine wpAnyH_ready (rs:=[20]) (by kernel_rfl) (by simp) ?_
          refine AllReadyH.cons (o:=_) (head_at rfl) (fun K hK=>?_) ?_
          focus
           go_simp
           refine hK.out _ _ ?_ (fun hHeld=>?_)
           focus ((try dsimp only);exact ⟨cells11 (t:=26) (by repeat (first|with_reducible assumption|with_reducible exact Blk.new _ _ _|with_reducible refine Blk.alloc ?_ _|with_reducible refine Blk.drew ?_|(with_reducible refine Blk.setCell_other ?_ ?hB _;case hB=>(first|omega|(simp;done)|(simp;omega)))|with_reducible refine Blk.setCell_same ?_ _ _|with_reducible refine Blk.keep ?_ (by assumption))),cells5 (t:=35) (by repeat (first|with_reducible assumption|with_reducible exact Blk.new _ _ _|with_reducible refine Blk.alloc ?_ _|with_reducible refine Blk.drew ?_|(with_reducible refine Blk.setCell_other ?_ ?hB _;case hB=>(first|omega|(simp;done)|(simp;omega)))|with_reducible refine Blk.setCell_same ?_ _ _|with_reducible refine Blk.keep ?_ (by assumption))),by go_simp⟩)
           clear hK K
           try simp only [Act.put,List.setIfInBounds_toArray,List.set_cons_zero,List.set_cons_succ]
           refine wpAnyH_done (by kernel_rfl) ?_ _
           refine NoPanic.normal ?_
           go_wp2_with fail
           go_roundw
           all_goals first|exact ⟨k+1,by omega,rfl,YE⟩|exact (by first|(simp [intOf];done)|(simp [intOf];omega))
          exact AllReadyH.nil
         exact AllReadyH.nil
        exact AllReadyH.nil
       exact AllReadyH.nil
      refine AllReadyH.cons (o:=_) (head_at rfl) (fun K hK=>?_) ?_
      focus
       go_simp
       refine hK.out _ _ ?_ (fun hHeld=>?_)
       focus ((try dsimp only);exact ⟨cells11 (t:=26) (by repeat (first|with_reducible assumption|with_reducible exact Blk.new _ _ _|with_reducible refine Blk.alloc ?_ _|with_reducible refine Blk.drew ?_|(with_reducible refine Blk.setCell_other ?_ ?hB _;case hB=>(first|omega|(simp;done)|(simp;omega)))|with_reducible refine Blk.setCell_same ?_ _ _|with_reducible refine Blk.keep ?_ (by assumption))),cells5 (t:=35) (by repeat (first|with_reducible assumption|with_reducible exact Blk.new _ _ _|with_reducible refine Blk.alloc ?_ _|with_reducible refine Blk.drew ?_|(with_reducible refine Blk.setCell_other ?_ ?hB _;case hB=>(first|omega|(simp;done)|(simp;omega)))|with_reducible refine Blk.setCell_same ?_ _ _|with_reducible refine Blk.keep ?_ (by assumption))),by go_simp⟩)
       clear hK K
       try simp only [Act.put,List.setIfInBounds_toArray,List.set_cons_zero,List.set_cons_succ]
       refine wpAnyH_ready (rs:=[9]) (by kernel_rfl) (by simp) ?_
       refine AllReadyH.cons (o:=_) (head_at rfl) (fun K hK=>?_) ?_
       focus
        go_simp
        refine hK.out _ _ ?_ (fun hHeld=>?_)
        focus ((try dsimp only);exact ⟨cells11 (t:=26) (by repeat (first|with_reducible assumption|with_reducible exact Blk.new _ _ _|with_reducible refine Blk.alloc ?_ _|with_reducible refine Blk.drew ?_|(with_reducible refine Blk.setCell_other ?_ ?hB _;case hB=>(first|omega|(simp;done)|(simp;omega)))|with_reducible refine Blk.setCell_same ?_ _ _|with_reducible refine Blk.keep ?_ (by assumption))),cells5 (t:=35) (by repeat (first|with_reducible assumption|with_reducible exact Blk.new _ _ _|with_reducible refine Blk.alloc ?_ _|with_reducible refine Blk.drew ?_|(with_reducible refine Blk.setCell_other ?_ ?hB _;case hB=>(first|omega|(simp;done)|(simp;omega)))|with_reducible refine Blk.setCell_same ?_ _ _|with_reducible refine Blk.keep ?_ (by assumption))),by go_simp⟩)
        clear hK K
        try simp only [Act.put,List.setIfInBounds_toArray,List.set_cons_zero,List.set_cons_succ]
        refine wpAnyH_ready (rs:=[15]) (by kernel_rfl) (by simp) ?_
        refine AllReadyH.cons (o:=_) (head_at rfl) (fun K hK=>?_) ?_
        focus
         (refine step_append_own_at rfl (.tmp 50) (.tmp 55) 70 rfl 0 43 i0 (.pointer none) 1 8 Tryz.underlying70 hi hz0 hz1 hz2 rfl (by decide) (.slice an k cn) k (gs.map ptr) (by simp [Act.eval,Act.put]) (row_below HRN.out (show Below _ _ _ from below_byR)) ⟨w6.heap.size,0,none⟩ 1 1 [ptr gN] (by simp [Act.eval,Act.put]) rfl (news_of (Blk.new _ _ 43)) (ptr_one gN) (by unfold maxLen;omega) (by omega) (by simp) ?_;intro v' w5 hown hgrow hat;obtain ⟨g',cap2,rfl⟩:=own_some hown (by omega);obtain ⟨ya,⟨yb,yc⟩,yd,ye,yf,yg⟩:=new_mid (k:=k) HIN.out HOL.out hlt (by exact (show Below _ _ _ from below_byR)) hgrow;have UC5:Blk w5 w.heap.size #[.int .i64 N,.int .i64 x1,.int .i64 x2,.int .i64 x3,.int .i64 x4,.int .i64 x5,.int .i64 x6,.int .i64 x7,.int .i64 x8,.int .i64 x9,.int .i64 x10] 26:=blk_grown HIN.out (show Blk _ _ _ _ from (by repeat (first|with_reducible assumption|with_reducible exact Blk.new _ _ _|with_reducible refine Blk.alloc ?_ _|with_reducible refine Blk.drew ?_|(with_reducible refine Blk.setCell_other ?_ ?hB _;case hB=>(first|omega|(simp;done)|(simp;omega)))|with_reducible refine Blk.setCell_same ?_ _ _|with_reducible refine Blk.keep ?_ (by assumption)))) (by decide) (show Below _ _ _ from below_byR) hgrow;have BE5':Blk w5 wr.heap.size #[.int .i64 e1,.int .i64 e2,.int .i64 e3,.int .i64 e4,.int .i64 e5] 35:=blk_grown HIN.out (show Blk _ _ _ _ from (by repeat (first|with_reducible assumption|with_reducible exact Blk.new _ _ _|with_reducible refine Blk.alloc ?_ _|with_reducible refine Blk.drew ?_|(with_reducible refine Blk.setCell_other ?_ ?hB _;case hB=>(first|omega|(simp;done)|(simp;omega)))|with_reducible refine Blk.setCell_same ?_ _ _|with_reducible refine Blk.keep ?_ (by assumption)))) (by decide) (show Below _ _ _ from below_byR) hgrow;have yq:=ya.cell (i:=13) (v := .slice an k cn) rfl;have yq4:=ya.cell (i:=14) (v := .slice (some ⟨ob,0,none⟩) N co) rfl;have yqf:=ya.frozen;have yql:=ya.lt;have YE:=Lib.hid (new_end (N:=N) (w:=w) (cb:=w.heap.size) HCN.out.1 HIN.out hlt HBL.out H00.out HCF.out HC0.out (by exact (show Below _ _ _ from below_byR)) hN (by exact (show Below _ _ _ from below_byR)) hown hgrow hat);clear hown hgrow hat ya)
         refine hK.out _ _ ?_ (fun hHeld=>?_)
         focus ((try dsimp only);exact ⟨cells11 (t:=26) (by repeat (first|with_reducible assumption|with_reducible exact Blk.new _ _ _|with_reducible refine Blk.alloc ?_ _|with_reducible refine Blk.drew ?_|(with_reducible refine Blk.setCell_other ?_ ?hB _;case hB=>(first|omega|(simp;done)|(simp;omega)))|with_reducible refine Blk.setCell_same ?_ _ _|with_reducible refine Blk.keep ?_ (by assumption))),cells5 (t:=35) (by repeat (first|with_reducible assumption|with_reducible exact Blk.new _ _ _|with_reducible refine Blk.alloc ?_ _|with_reducible refine Blk.drew ?_|(with_reducible refine Blk.setCell_other ?_ ?hB _;case hB=>(first|omega|(simp;done)|(simp;omega)))|with_reducible refine Blk.setCell_same ?_ _ _|with_reducible refine Blk.keep ?_ (by assumption))),by go_simp⟩)
         clear hK K
         try simp only [Act.put,List.setIfInBounds_toArray,List.set_cons_zero,List.set_cons_succ]
         refine wpAnyH_take (i:=16) (oi:=_) (v:=?_) rfl (by kernel_rfl) (by kernel_rfl) (by kernel_rfl) (fun _ _ _ h=>h) (Or.inl ⟨by rfl,?_⟩) (by assumption) ?_
         rotate_left
         focus (intro wx hSw;(try dsimp only at hSw);go_simp;try with_reducible rfl)
         try simp only [Act.put,List.setIfInBounds_toArray,List.set_cons_zero,List.set_cons_succ]
         refine wpAnyH_take (i:=17) (oi:=_) (v:=?_) rfl (by kernel_rfl) (by kernel_rfl) (by kernel_rfl) (fun _ _ _ h=>h) (Or.inl ⟨by rfl,?_⟩) (by assumption) ?_
         rotate_left
         focus (intro wx hSw;(try dsimp only at hSw);go_simp;try with_reducible rfl)
         try simp only [Act.put,List.setIfInBounds_toArray,List.set_cons_zero,List.set_cons_succ]
         refine wpAnyH_ready (rs:=[18]) (by kernel_rfl) (by simp) ?_
         refine AllReadyH.cons (o:=_) (head_at rfl) (fun K hK=>?_) ?_
         focus
          go_simp
          refine hK.out _ _ ?_ (fun hHeld=>?_)
          focus ((try dsimp only);exact ⟨cells11 (t:=26) (by repeat (first|with_reducible assumption|with_reducible exact Blk.new _ _ _|with_reducible refine Blk.alloc ?_ _|with_reducible refine Blk.drew ?_|(with_reducible refine Blk.setCell_other ?_ ?hB _;case hB=>(first|omega|(simp;done)|(simp;omega)))|with_reducible refine Blk.setCell_same ?_ _ _|with_reducible refine Blk.keep ?_ (by assumption))),cells5 (t:=35) (by repeat (first|with_reducible assumption|with_reducible exact Blk.new _ _ _|with_reducible refine Blk.alloc ?_ _|with_reducible refine Blk.drew ?_|(with_reducible refine Blk.setCell_other ?_ ?hB _;case hB=>(first|omega|(simp;done)|(simp;omega)))|with_reducible refine Blk.setCell_same ?_ _ _|with_reducible refine Blk.keep ?_ (by assumption))),by go_simp⟩)
          clear hK K
          try simp only [Act.put,List.setIfInBounds_toArray,List.set_cons_zero,List.set_cons_succ]
          refine wpAnyH_take (i:=19) (oi:=_) (v:=?_) rfl (by kernel_rfl) (by kernel_rfl) (by kernel_rfl) (fun _ _ _ h=>h) (Or.inl ⟨by rfl,?_⟩) (by assumption) ?_
          rotate_left
          focus (intro wx hSw;(try dsimp only at hSw);go_simp;try with_reducible rfl)
          try simp only [Act.put,List.setIfInBounds_toArray,List.set_cons_zero,List.set_cons_succ]
          refine wpAnyH_ready (rs:=[20]) (by kernel_rfl) (by simp) ?_
          refine AllReadyH.cons (o:=_) (head_at rfl) (fun K hK=>?_) ?_
          focus
           go_simp
           refine hK.out _ _ ?_ (fun hHeld=>?_)
           focus ((try dsimp only);exact ⟨cells11 (t:=26) (by repeat (first|with_reducible assumption|with_reducible exact Blk.new _ _ _|with_reducible refine Blk.alloc ?_ _|with_reducible refine Blk.drew ?_|(with_reducible refine Blk.setCell_other ?_ ?hB _;case hB=>(first|omega|(simp;done)|(simp;omega)))|with_reducible refine Blk.setCell_same ?_ _ _|with_reducible refine Blk.keep ?_ (by assumption))),cells5 (t:=35) (by repeat (first|with_reducible assumption|with_reducible exact Blk.new _ _ _|with_reducible refine Blk.alloc ?_ _|with_reducible refine Blk.drew ?_|(with_reducible refine Blk.setCell_other ?_ ?hB _;case hB=>(first|omega|(simp;done)|(simp;omega)))|with_reducible refine Blk.setCell_same ?_ _ _|with_reducible refine Blk.keep ?_ (by assumption))),by go_simp⟩)
           clear hK K
           try simp only [Act.put,List.setIfInBounds_toArray,List.set_cons_zero,List.set_cons_succ]
           refine wpAnyH_done (by kernel_rfl) ?_ _
           refine NoPanic.normal ?_
           go_wp2_with fail
           go_roundw
           all_goals first|exact ⟨k+1,by omega,rfl,YE⟩|exact (by first|(simp [intOf];done)|(simp [intOf];omega))
          exact AllReadyH.nil
         exact AllReadyH.nil
        exact AllReadyH.nil
       exact AllReadyH.nil
      exact AllReadyH.nil
     exact AllReadyH.nil
   ·have hkN:k=N:=by omega
    subst hkN
    have k1:¬ ((k:Int)<(k:Int)):=by omega
    obtain ⟨owr,gs,nv,bv,hin,hbel,h0,hcfg,hc0⟩:=HK.out
    have HIN:=Lib.hid hin
    have HBL:=Lib.hid hbel
    have H00:=Lib.hid h0
    clear hin hbel h0 hcfg hc0 HK
    go_wp2_with fail
    go_ret2
    refine ⟨g,rfl,tw,ta,gs,nv,bv,owr,?_,HBL.out,H00.out⟩
    have:=HIN.out
    rw [fltK_done cc k HCN.out.1] at this
    rw [HCE.out];exact this
section
variable {ow:Nat→Nat} {w wr:World} {g tw ta:Nat} {gs:List Nat} {nv bv:Value} {F:FleetD}
theorem fhear_c (H0:FlO ow w g tw ta gs nv bv F wr) (OK:FleetOK F) (i:Nat) (n:NodeD) (hn:F.n[i]? = some n) (v:Value) (l:List Nat) (hv:RdB wr v l) (at_ G:Int) (hG:0≤G∧G≤35184372088832) (HC:HearC n (n.hear l at_ (F.w.now i) (F.w.fine i G)).1 l at_ (F.w.now i) (F.w.fine i G) (n.hear l at_ (F.w.now i) (F.w.fine i G)).2.1) (hl:(n.hear l at_ (F.w.now i) (F.w.fine i G)).2.1.length≤1000000) :
  Calls Tryz.prog 72 #[ptr g,.int .i64 i,v,.int .i64 at_,.int .i64 G] wr fun e w'=>e = .returned (.tuple #[])∧FlO ow w g tw ta gs nv bv (F.hear i l at_ G) w':=by
 have hil:=(List.getElem?_eq_some_iff.1 hn).1
 obtain ⟨owr,hin,-⟩:=id H0
 have hln:=hin.ln
 obtain ⟨nb,cn,rfl,nbl,cnb⟩:=H0.node hil
 obtain ⟨q0,q1,q13,q14,q15,f1,y1⟩:=H0.cells
 obtain ⟨ao,cap,rfl⟩:∃ ao cap,v = .slice ao l.length cap:=hv.form
 have HN:Hid (∀ w1,Below wr.heap.size wr w1→Calls Tryz.prog 68 #[ptr tw,.int .i64 i] w1 fun e w'=>e = .returned (.int .i64 (F.w.now i))∧Below w1.heap.size w1 w'):=fun w1 hb=>(H0.below hb).now_c OK i hil
 have HF:Hid (∀ w1,Below wr.heap.size wr w1→Calls Tryz.prog 69 #[ptr tw,.int .i64 i,.int .i64 G] w1 fun e w'=>e = .returned (.int .i64 (F.w.fine i G))∧Below w1.heap.size w1 w'):=fun w1 hb=>(H0.below hb).fine_c OK i hil G (by omega)
 have EV:Hid (F.hear i l at_ G=(F.setN i (n.hear l at_ (F.w.now i) (F.w.fine i G)).1).send i (n.hear l at_ (F.w.now i) (F.w.fine i G)).2.1 G):=by show _=_;unfold FleetD.hear;rw [hn]
 obtain ⟨⟨n2,o,ke⟩,ho⟩:∃ r,n.hear l at_ (F.w.now i) (F.w.fine i G)=r:=⟨_,rfl⟩
 rw [ho] at HC hl EV
 have HH:Hid (∀ w1,Below wr.heap.size wr w1→Calls Tryz.prog 146 #[ptr (gs.getD i 0),.slice ao l.length cap,.int .i64 at_,.int .i64 (F.w.now i),.int .i64 (F.w.fine i G)] w1 fun e w'=>∃ ao' cap' k,e = .returned (.tuple #[.slice ao' o.length cap',.int .i64 k])∧Hid (FlV ow w g tw ta gs (.slice (some ⟨nb,0,none⟩) gs.length cn) bv (F.setN i n2) o (.slice ao' o.length cap') w')∧w'.cell? ⟨nb,i,none⟩=some (ptr (gs.getD i 0))):=fun w1 hb =>
  ((H0.below hb).node_hear i n n2 l at_ _ _ o hn HC _ (hv.below hb)).mono (by
   rintro e w' ⟨vo,k,rfl,hf⟩
   obtain ⟨owr,h1,h2,h3,h4⟩:=id hf
   obtain ⟨ao',cap',rfl⟩:=row_form h3
   obtain ⟨b2,c2,e2,-,hc⟩:=(FlV.fl hf).node (j:=i) (by show i<(F.n.set i n2).length;rw [List.length_set];exact hil)
   injection e2 with e2 _ _
   injection e2 with e2
   injection e2 with e2
   subst e2
   exact ⟨ao',cap',k,rfl,hf,hc⟩)
 have HSN:Hid (∀ v w1,FlV ow w g tw ta gs (.slice (some ⟨nb,0,none⟩) gs.length cn) bv (F.setN i n2) o v w1→Calls Tryz.prog 66 #[ptr g,.int .i64 i,v,.int .i64 G] w1 fun e w'=>e = .returned (.tuple #[])∧Hid (FlO ow w g tw ta gs (.slice (some ⟨nb,0,none⟩) gs.length cn) bv (F.hear i l at_ G) w')):=fun v w1 hv=>by
  rw [EV.out]
  exact hv.send_c (setN_ok OK i _) i (by show i<(F.n.set i _).length;rw [List.length_set];exact hil) hl G hG
 have k1:(i:Int)<(gs.length:Int):=by omega
 have k2:(0:Int)≤(i:Int):=by omega
 obtain ⟨nw,hnw⟩:∃ z,F.w.now i=z:=⟨_,rfl⟩
 obtain ⟨fn,hfn⟩:∃ z,F.w.fine i G=z:=⟨_,rfl⟩
 obtain ⟨gk,hgk⟩:∃ z,gs.getD i 0=z:=⟨_,rfl⟩
 obtain ⟨FK,hFK⟩:∃ z,F.setN i n2=z:=⟨_,rfl⟩
 obtain ⟨FL,hFL⟩:∃ z,F.hear i l at_ G=z:=⟨_,rfl⟩
 have hol:o.length≤1000000:=hl
 rw [hnw] at HN HH
 rw [hfn] at HF HH
 rw [hgk] at HH cnb
 rw [hFK] at HH HSN
 rw [hFL] at HSN ⊢
 clear H0 OK HC hn hv hin hG hl ho EV hnw hfn hgk hFK hFL hln
 go_enter Tryz.func72,Tryz.ntmps72
 go_wp2_with fail
 go_region_held3 (fun w'=>w'.cell? ⟨g,0,none⟩=some (ptr tw)∧w'.cell? ⟨g,13,none⟩=some (.slice (some ⟨nb,0,none⟩) gs.length cn)∧w'.cell? ⟨nb,i,none⟩=some (ptr gk)) (go_simp)
  (first
  | (go_at_call 68;refine (HN.out _ below_byR).mono ?_;rintro e w3 ⟨rfl,hb3⟩;have z_w3:=hb3.size;(try simp at z_w3);obtain ⟨y_w3_g,c_w3_g,f_w3_g,r_w3_g,t_w3_g,p_w3_g⟩:=bq hb3 (g);obtain ⟨y_w3_nb,c_w3_nb,f_w3_nb,r_w3_nb,t_w3_nb,p_w3_nb⟩:=bq hb3 (nb))
  | (go_at_call 69;refine (HF.out _ below_byR).mono ?_;rintro e w4 ⟨rfl,hb4⟩;have z_w4:=hb4.size;(try simp at z_w4);obtain ⟨y_w4_g,c_w4_g,f_w4_g,r_w4_g,t_w4_g,p_w4_g⟩:=bq hb4 (g);obtain ⟨y_w4_nb,c_w4_nb,f_w4_nb,r_w4_nb,t_w4_nb,p_w4_nb⟩:=bq hb4 (nb))
  | (go_at_call 146;refine (HH.out _ below_byR).mono ?_;rintro e w5 ⟨ao',cap',k,rfl,hv,vn⟩;obtain ⟨v0,v1,v13,v14,v15,vf,vy⟩:=hv.out.fl.cells))
 all_goals go_wp2_with (go_at_call 66;refine (HSN.out _ _ hv.out).mono ?_;rintro e w6 ⟨rfl,hq⟩)
 all_goals refine bodyPost_end (results_none rfl _ _ _) rfl ?_
 all_goals exact ⟨rfl,hq.out⟩
theorem FlO.get_c {F:FleetD} (h:FlO ow w g tw ta gs nv bv F wr) (OK:FleetOK F) (i:Nat) (m:MailD) (hm:F.a[i]? = some m):Calls Tryz.prog 70 #[ptr ta,.int .i64 i] wr fun e w'=>∃ ao cap,e = .returned (.tuple #[mailV m (.slice ao m.data.length cap),.bool true])∧RdS (fun k=>wr.heap.size≤k) w' (.slice ao m.data.length cap) m.data∧Below wr.heap.size wr w':=by
 obtain ⟨owr,h1,-⟩:=h
 obtain ⟨v,lp,e1,h2⟩:=h1.a
 have hl:lp.length≤1000:=by have:=OK.a;rw [← e1] at this;simp at this;omega
 have hm':=hm
 rw [← e1,List.getElem?_map,Option.map_eq_some_iff] at hm'
 obtain ⟨p,hp,rfl⟩:=hm'
 refine (airGet_c h2 i p hp hl).mono ?_
 rintro e w' ⟨v',rfl,hr,hb⟩
 obtain ⟨ao,cap,rfl⟩:=hr.form
 exact ⟨ao,cap,rfl,hr,hb⟩
theorem FlO.take_c {F:FleetD} (h:FlO ow w g tw ta gs nv bv F wr) (OK:FleetOK F) (i:Nat) (hi:i<F.a.length):Calls Tryz.prog 71 #[ptr ta,.int .i64 i] wr fun e w'=>(∃ v',e = .returned v')∧FlO ow w g tw ta gs nv bv { F with a:=F.a.eraseIdx i } w':=by
 obtain ⟨owr,h1,h0⟩:=h
 obtain ⟨v,lp,e1,h2⟩:=h1.a
 have hl:lp.length≤1000:=by have:=OK.a;rw [← e1] at this;simp at this;omega
 refine (airTake_c h2 i (by rw [← e1] at hi;simpa using hi) hl).mono ?_
 rintro e w' ⟨he,ht,ha⟩
 rw [e1] at ha
 exact ⟨he,_,h1.turn_air ht (ha.mono (fun k _ hk => .inl hk)),h0.trans (FT.of_turns (by unfold Rn;decide) ht 2)⟩
def FlD (ow:Nat→Nat) (w:World) (g tw ta:Nat) (gs:List Nat) (nv bv:Value) (F:FleetD) (b:Nat) (cs:Array Value) (v:Value) (xs:List Nat) (wr:World):Prop :=
 ∃ owr,FleetIn owr wr g tw ta gs nv bv F∧FT Rn ow owr w wr∧Blk wr b cs 143∧owr b=0∧RdS (fun k=>owr k=0) wr v xs
section
variable {b:Nat} {cs:Array Value} {v:Value} {xs:List Nat}
theorem FlD.step (h:FlD ow w g tw ta gs nv bv F b cs v xs wr):∃ owr,FlO owr wr g tw ta gs nv bv F wr∧∀ F' w',FlO owr wr g tw ta gs nv bv F' w'→FlD ow w g tw ta gs nv bv F' b cs v xs w':=by
 obtain ⟨owr,h1,h2,h3,h4,h5⟩:=h
 refine ⟨owr,⟨owr,h1,FT.refl⟩,?_⟩
 rintro F' w' ⟨ow2,j1,j2⟩
 obtain ⟨k1,k2⟩:=j2.blk h3 (by rw [h4];exact rn_0)
 exact ⟨ow2,j1,h2.trans j2,k1,k2.trans h4,j2.rdS rn_0 h5⟩
theorem FlD.below (h:FlD ow w g tw ta gs nv bv F b cs v xs wr) {w1:World} (hb:Below wr.heap.size wr w1):FlD ow w g tw ta gs nv bv F b cs v xs w1:=by
 obtain ⟨owr,k1,k2⟩:=h.step
 exact k2 _ _ (k1.below hb)
theorem FlD.fl (h:FlD ow w g tw ta gs nv bv F b cs v xs wr):FlO ow w g tw ta gs nv bv F wr:=by
 obtain ⟨owr,h1,h2,-⟩:=h;exact ⟨owr,h1,h2⟩
theorem FlD.blk (h:FlD ow w g tw ta gs nv bv F b cs v xs wr):Blk wr b cs 143:=by
 obtain ⟨owr,h1,h2,h3,-⟩:=h;exact h3
theorem FlD.rd (h:FlD ow w g tw ta gs nv bv F b cs v xs wr):RdB wr v xs:=by
 obtain ⟨owr,h1,h2,h3,h4,h5⟩:=h;exact h5.rd
theorem FlD.step_c (h:FlD ow w g tw ta gs nv bv F b cs v xs wr) (OK:FleetOK F):Calls Tryz.prog 65 #[ptr tw] wr fun e w'=>e = .returned (.int .i64 F.w.step.2)∧FlD ow w g tw ta gs nv bv { F with w:=F.w.step.1 } b cs v xs w':=by
 obtain ⟨owr,k1,k2⟩:=h.step
 exact (k1.step_c OK).mono (by rintro e w' ⟨rfl,h'⟩;exact ⟨rfl,k2 _ _ h'⟩)
theorem FlD.take_c (h:FlD ow w g tw ta gs nv bv F b cs v xs wr) (OK:FleetOK F) (i:Nat) (hi:i<F.a.length):Calls Tryz.prog 71 #[ptr ta,.int .i64 i] wr fun e w'=>(∃ v',e = .returned v')∧FlD ow w g tw ta gs nv bv { F with a:=F.a.eraseIdx i } b cs v xs w':=by
 obtain ⟨owr,k1,k2⟩:=h.step
 exact (k1.take_c OK i hi).mono (by rintro e w' ⟨he,h'⟩;exact ⟨he,k2 _ _ h'⟩)
theorem FlO.toD (h:FlO ow w g tw ta gs nv bv F wr) {u w1:World} (hb:Below wr.heap.size wr w1) (hu:Below w1.heap.size w1 u) (hk:Blk u b cs 143) (hB:w1.heap.size≤b) (hv:RdS (fun k=>wr.heap.size≤k) w1 v xs):FlD ow w g tw ta gs nv bv F b cs v xs u:=by
 obtain ⟨owr,h1,h2⟩:=h
 have hz:=hb.size
 have hbu:Below wr.heap.size wr u:=hb.trans (hu.mono hz)
 refine ⟨ext owr wr.heap.size 0,h1.below hbu 0,h2.trans (FT.of_below hbu 0),hk,?_,hv.kept hu.size (fun k hk _=>hu.block k hk) (fun k _ hk=>?_)⟩
 ·unfold ext;rw [if_neg (by omega)]
 ·have hk:wr.heap.size≤k:=hk
  show ext owr wr.heap.size 0 k=0
  unfold ext;rw [if_neg (by omega)]
end
theorem fdel_c {F:FleetD} (H0:FlO ow w g tw ta gs nv bv F wr) (OK:FleetOK F) (i:Nat) (m:MailD) (hm:F.a[i]? = some m) (ht:m.tru≤F.w.step.2) (n:NodeD) (hn:F.n[m.til]? = some n) (hon:F.on.getD m.til false=true)
  (HC:HearC n (n.hear m.data m.at_ (F.w.step.1.now m.til) (F.w.step.1.fine m.til F.w.step.2)).1 m.data m.at_ (F.w.step.1.now m.til) (F.w.step.1.fine m.til F.w.step.2) (n.hear m.data m.at_ (F.w.step.1.now m.til) (F.w.step.1.fine m.til F.w.step.2)).2.1) (hl:(n.hear m.data m.at_ (F.w.step.1.now m.til) (F.w.step.1.fine m.til F.w.step.2)).2.1.length≤1000000) :
  Calls Tryz.prog 31 #[ptr g,.int .i64 i] wr fun e w'=>e = .returned (.int .i64 0)∧FlO ow w g tw ta gs nv bv (F.deliver i).1 w':=by
 have hil:=(List.getElem?_eq_some_iff.1 hm).1
 have EV:Hid ((F.deliver i).1=({ F with w:=F.w.step.1,a:=F.a.eraseIdx i } : FleetD).hear m.til m.data m.at_ F.w.step.2):=by
  show _=_
  unfold FleetD.deliver
  rw [if_neg (by omega),show ((i:Int)).toNat=i by omega,hm]
  simp only [hon]
  rw [if_neg (by omega)]
  rfl
 have OK1:FleetOK { F with w:=F.w.step.1 }:=⟨truStep_ok OK.t,OK.p,OK.a,OK.d,OK.lost,OK.lo⟩
 have OK2:FleetOK { F with w:=F.w.step.1,a:=F.a.eraseIdx i }:=⟨truStep_ok OK.t,OK.p,Nat.le_trans (List.length_eraseIdx_le ..) OK.a,fun p hp=>OK.d p (List.mem_of_mem_eraseIdx hp),OK.lost,OK.lo⟩
 have hG:=truStep_bd OK.t
 have hwl:F.on.length=F.n.length:=OK.lo
 have htl:m.til<F.n.length:=(List.getElem?_eq_some_iff.1 hn).1
 obtain ⟨q0,q1,q13,q14,q15,f1,y1⟩:=H0.cells
 have HGT:Hid (Calls Tryz.prog 70 #[ptr ta,.int .i64 i] wr fun e w'=>∃ ao cap,e = .returned (.tuple #[mailV m (.slice ao m.data.length cap),.bool true])∧RdS (fun k=>wr.heap.size≤k) w' (.slice ao m.data.length cap) m.data∧Below wr.heap.size wr w'):=H0.get_c OK i m hm
 obtain ⟨ob,co,rfl,obl,cob⟩:∃ b cap,bv = .slice (some ⟨b,0,none⟩) F.on.length cap∧b<wr.heap.size∧wr.cell? ⟨b,m.til,none⟩=some (.bool true):=H0.on (by
  rw [List.getElem?_eq_getElem (by omega)]
  rw [List.getD_eq_getElem?_getD,List.getElem?_eq_getElem (by omega)] at hon
  simpa using hon)
 have hol:(m.til:Int)<(F.on.length:Int):=by omega
 have ho0:(0:Int)≤(m.til:Int):=by omega
 have HD : Hid (∀ ao cap u w1, Below wr.heap.size wr w1 → Below w1.heap.size w1 u → Blk u w1.heap.size #[.int .i64 m.til, .slice ao m.data.length cap, .int .i64 m.at_, .int .i64 m.tru, .bool m.bent] 143 → RdS (fun k => wr.heap.size ≤ k) w1 (.slice ao m.data.length cap) m.data →
     FlD ow w g tw ta gs nv (.slice (some ⟨ob,0,none⟩) F.on.length co) F w1.heap.size #[.int .i64 m.til,.slice ao m.data.length cap,.int .i64 m.at_,.int .i64 m.tru,.bool m.bent] (.slice ao m.data.length cap) m.data u):=fun ao cap u w1 h1 h2 h3 h4=>H0.toD h1 h2 h3 (Nat.le_refl _) h4
 obtain ⟨T1,hT1⟩:∃ z,F.w.step.1=z:=⟨_,rfl⟩
 obtain ⟨G,hGG⟩:∃ z,F.w.step.2=z:=⟨_,rfl⟩
 rw [hT1,hGG] at EV HC hl
 rw [hT1] at OK1 OK2
 rw [hGG] at hG ht
 have HSC:Hid (∀ b cs v w1,FlD ow w g tw ta gs nv (.slice (some ⟨ob,0,none⟩) F.on.length co) F b cs v m.data w1→Calls Tryz.prog 65 #[ptr tw] w1 fun e w'=>e = .returned (.int .i64 G)∧Hid (FlD ow w g tw ta gs nv (.slice (some ⟨ob,0,none⟩) F.on.length co) { F with w:=T1 } b cs v m.data w')):=fun b cs v w1 h1=>by
  have:=h1.step_c OK
  rw [hT1,hGG] at this;exact this
 have HTC:Hid (∀ b cs v w1,FlD ow w g tw ta gs nv (.slice (some ⟨ob,0,none⟩) F.on.length co) { F with w:=T1 } b cs v m.data w1→Calls Tryz.prog 71 #[ptr ta,.int .i64 i] w1 fun e w'=>(∃ v',e = .returned v')∧Hid (FlD ow w g tw ta gs nv (.slice (some ⟨ob,0,none⟩) F.on.length co) { F with w:=T1,a:=F.a.eraseIdx i } b cs v m.data w')):=fun b cs v w1 h1=>h1.take_c OK1 i hil
 have HHC:Hid (∀ b cs ao cap w1,FlD ow w g tw ta gs nv (.slice (some ⟨ob,0,none⟩) F.on.length co) { F with w:=T1,a:=F.a.eraseIdx i } b cs (.slice ao m.data.length cap) m.data w1→Calls Tryz.prog 72 #[ptr g,.int .i64 m.til,.slice ao m.data.length cap,.int .i64 m.at_,.int .i64 G] w1 fun e w'=>e = .returned (.tuple #[])∧Hid (FlO ow w g tw ta gs nv (.slice (some ⟨ob,0,none⟩) F.on.length co) (F.deliver i).1 w')):=fun b cs ao cap w1 h1=>by
  rw [EV.out]
  exact fhear_c h1.fl OK2 m.til n hn _ m.data h1.rd m.at_ G hG HC hl
 have hon2:F.on[m.til]? = some true:=by
  rw [List.getElem?_eq_getElem (by omega)]
  rw [List.getD_eq_getElem?_getD,List.getElem?_eq_getElem (by omega)] at hon
  simpa using hon
 have HON:Hid (∀ b cs v w1,FlD ow w g tw ta gs nv (.slice (some ⟨ob,0,none⟩) F.on.length co) { F with w:=T1,a:=F.a.eraseIdx i } b cs v m.data w1→w1.cell? ⟨ob,m.til,none⟩=some (.bool true)):=fun b cs v w1 h1=>by
  obtain ⟨b2,c2,e2,-,hc⟩:=h1.fl.on (j:=m.til) (k:=true) hon2
  injection e2 with e2 _ _
  injection e2 with e2
  injection e2 with e2
  subst e2;exact hc
 have ht':¬ (G<m.tru):=by omega
 obtain ⟨FE,hFE⟩:∃ z,(F.deliver i).1=z:=⟨_,rfl⟩
 rw [hFE] at HHC ⊢
 clear H0 OK hm hn hon HC hl EV OK1 OK2 hG hwl htl hT1 hGG hon2 hFE obl cob ht
 go_enter Tryz.func31,Tryz.ntmps31
 go_wp2_with fail
 refine HGT.out.mono ?_;rintro e w1 ⟨ao,cap,rfl,hv,hb1⟩;have z_w1:=hb1.size;(try simp at z_w1);obtain ⟨y_w1_g,c_w1_g,f_w1_g,r_w1_g,t_w1_g,p_w1_g⟩:=bq hb1 (g)
 have HV:=Lib.hid hv
 clear hv
 go_wp2_with fail
 refine name_calls ?_;intro u hu
 have HD1:Hid (FlD ow w g tw ta gs nv (.slice (some ⟨ob,0,none⟩) F.on.length co) F w1.heap.size #[.int .i64 m.til,.slice ao m.data.length cap,.int .i64 m.at_,.int .i64 m.tru,.bool m.bent] (.slice ao m.data.length cap) m.data u) :=
  HD.out ao cap u w1 hb1 (by rw [hu];exact below_byR) (by rw [hu];exact Blk.new _ _ _) HV.out
 obtain ⟨mb,hmb⟩:∃ z,w1.heap.size=z:=⟨_,rfl⟩
 try simp only [hmb] at HD1 ⊢
 clear hu HV HD HGT q0 q1 q13 q14 q15 f1 y1
 clear z_w1 y_w1_g c_w1_g f_w1_g r_w1_g t_w1_g p_w1_g
 clear hb1 hmb
 refine (HSC.out _ _ _ _ HD1.out).mono ?_;rintro e w2 ⟨rfl,HD2⟩
 obtain ⟨q0,q1,q13,q14,q15,f1,y1⟩:=HD2.out.fl.cells
 obtain ⟨y2,c2,f2,-⟩:=bk_o HD2.out.blk
 go_wp2_with fail
 refine (HTC.out _ _ _ _ HD2.out).mono ?_;rintro e w3 ⟨⟨v3,rfl⟩,HD3⟩
 clear q0 q1 q13 q14 q15 f1 y1 y2 c2 f2
 obtain ⟨q0,q1,q13,q14,q15,f1,y1⟩:=HD3.out.fl.cells
 obtain ⟨y2,c2,f2,-⟩:=bk_o HD3.out.blk
 have qo:=HON.out _ _ _ _ HD3.out
 go_wp2_with fail
 go_region
 all_goals go_wp2_with fail
 all_goals refine (HHC.out _ _ _ _ _ (HD3.out.below (Below.refl _ _).drew)).mono ?_
 all_goals rintro e w4 ⟨rfl,HF⟩
 all_goals go_wp2_with fail
 all_goals go_ret
 all_goals exact ⟨rfl,HF.out⟩
end
end Go.Proofs.YtechbdnhalmobaaGreatDoor
