/- Tables: Hear, of a node that was never heard. -/
import Derived.Test.YtechbdnhalmobaaGreatDoorA8
import Derived.Test.YtechbdnhalmobaaGreatDoorA1
import Derived.Lib.QuietBelow
set_option maxRecDepth 100000
set_option maxHeartbeats 16000000
namespace Go.Proofs.YtechbdnhalmobaaGreatDoor
set_option linter.unusedSimpArgs false
set_option linter.unusedVariables false
open Go.RowKit Go.Maps
theorem OfT.map {ty:List TypeId} {w:World} {k:Nat} {M:List (Int × Value)} (h:MapAt w k M):OfT ty true w k:=by
 obtain ⟨es,clock,h1,_⟩:=h
 refine ⟨fun c t f e=>?_,fun _ _ _=>rfl⟩
 rw [h1] at e;cases e
theorem MapAt.len_regrown {w:World} {b:Nat} {M:List (Int × Value)} (h:MapAt w b M) (t e:TypeId) (ht:Tryz.prog.underlying t=some (.map 3 e)) (d:Nat) (os:Array Obj) (ty:TypeId) :
  (Builtin.len_ #[t] ty #[.map (some b)]).run Tryz.prog (Go.Sort.grow (redrawn w d) os) = .ok (.int .i64 M.length) (Go.Sort.grow (redrawn w d) os):=by
 have h':MapAt (Go.Sort.grow (redrawn w d) os) b M:=MapAt.below h (below_regrown w d os)
 have:=World.ownsMap.len h' ht ty
 rw [this]
 have e:Maps.size (mapD M)=M.length:=by simp [mapD,Maps.size]
 rw [e]
theorem lk_lives (L:TLay) (t:TabD) (n:Int):lk (t.lives.map fun p=>(p.1,lifV (L.wb p.1) p.2)) n=(lk t.lives n).map (lifV (L.wb n)):=lk_map (fun k x=>lifV (L.wb k) x) _ _
theorem tabNode_c (n:Int) (h:nodeB n=true) (w:World):Calls Tryz.prog 252 #[.int .i64 n] w fun e w'=>e = .returned (.bool true)∧w'=w:=by
 have h':0≤n∧n<64:=by simpa [nodeB] using h
 obtain ⟨h1,h2⟩:=h'
 go_enter Tryz.func252,Tryz.ntmps252
 go_wp2
 go_ret
 exact ⟨by simp [h2],rfl⟩
section
variable {S:Nat→Prop} {w:World} {g:Nat} {L:TLay} {t:TabD} (H:TabAt S w g L t)
include H
theorem begin_new (n boot:Int) (hn : -9223372036854775808≤n∧n≤9223372036854775807) (h1:lk t.lives n=none) (h2:lk t.ents n=none) :
  Calls Tryz.prog 254 #[.pointer (some ⟨g,0,none⟩),.int .i64 n,.int .i64 boot] w fun e w'=>∃ b,e = .returned (.tuple #[lifV b ⟨boot,false,⟨false,0,0⟩⟩,.int .i64 0])∧w.heap.size≤b∧Blk w' b (winC ⟨false,0,0⟩) 375∧Below w.heap.size w w':=by
 have HL:Hid (lk (t.ents.map fun p=>(p.1,entV p.2)) n=none):=by show _=_;rw [lk_ents,h2];rfl
 have HV:Hid (lk (t.lives.map fun p=>(p.1,lifV (L.wb p.1) p.2)) n=none):=by show _=_;rw [lk_lives,h1];rfl
 have HH:=Lib.hid H
 have HN:=Lib.hid hn
 obtain ⟨y1,c1,f1,-⟩:=bk_o H.blk
 clear H hn h1 h2
 go_enter Tryz.func254,Tryz.ntmps254
 go_wp2_with (first
  | (at_lookup;refine wpList_lookM rfl _ _ 126 344 rfl Tryz.underlying126 _ zeroLif L.ml _ rfl (HH.out.ml.below below_byR) n rfl HN.out _ HV.out ?_)
  | (at_lookup;refine wpList_lookM rfl _ _ 125 99 rfl Tryz.underlying125 _ zeroEnt L.me _ rfl (HH.out.me.below below_byR) n rfl HN.out _ HL.out ?_)
  | (go_at_call 302;refine (newWin_c _).mono ?_;rintro e w1 ⟨rfl,h⟩;have h9:=h.symm;subst h9))
 exact bodyPost_row_t 3 #[.int .i64 boot,.bool false,.pointer (some ⟨w.heap.size+1+1+1,0,none⟩)] (.int .i64 0) rfl rfl rfl rfl Tryz.underlying344 rfl (by kernel_rfl) (rc3 (by go_simp) (by go_simp) (by go_simp)) ⟨_,rfl,(by first|omega|(simp;done)|(simp;omega)|fail),Blk.new' _ _ _ (by simp),below_byR⟩
omit H in
theorem winHear_n (b:Nat) (s:Int) (v:World) (hb:Hid (Blk v b (winC ⟨false,0,0⟩) 375)) (h0:0≤s) (h1:s≤65535) :
  Calls Tryz.prog 255 #[.pointer (some ⟨b,0,none⟩),.int .i64 s] v fun e w'=>e = .returned (.int .i64 0)∧OnlyAt b v w'∧Blk w' b (winC ⟨true,s,1⟩) 375:=winHear_c b s v hb h0 h1
theorem TabAt.new_life {w' w'':World} (n:Int) (hb:Below w.heap.size w w') {b:Nat} (hB:w.heap.size≤b) (ho:OnlyAt L.ml w' w'') (l:LifD) (hw:Blk w'' b (winC l.w) 375) (hS:S b) (h1:lk t.lives n=none)
  (hm:MapAt w'' L.ml (ins (t.lives.map fun p=>(p.1,lifV (L.wb p.1) p.2)) n (lifV b l))):TabAt S w'' g { L with wb:=fun k=>if k=n then b else L.wb k } { t with lives:=ins t.lives n l }:=by
 have h:=H.below hb
 have hk:∀ p ∈ t.lives,p.1≠n:=by
  intro p hp e
  unfold lk at h1
  rw [Option.map_eq_none_iff] at h1
  have:=List.find?_eq_none.1 h1 p hp
  simp [e] at this
 have e1:(t.lives.map fun p=>(p.1,lifV (L.wb p.1) p.2))=t.lives.map fun p=>(p.1,lifV (if p.1=n then b else L.wb p.1) p.2):=List.map_congr_left (fun p hp=>by rw [if_neg (hk p hp)])
 have e2:ins (t.lives.map fun p=>(p.1,lifV (L.wb p.1) p.2)) n (lifV b l)=(ins t.lives n l).map fun p=>(p.1,lifV (if p.1=n then b else L.wb p.1) p.2):=by
  have:=ins_map (fun k x=>lifV (if k=n then b else L.wb k) x) t.lives n l
  simp only [if_pos] at this
  rw [e1,← this]
 rw [e2] at hm
 refine ⟨ho.blk h.blk (Ne.symm (h.ml.ne h.blk)),h.me.only ho h.ne,hm,h.ne,h.sg,h.sm,h.sl,?_,?_⟩
 ·intro p hp
  rcases mem_ins.1 hp with rfl|⟨hp,hne⟩
  ·simp only [if_pos];exact ⟨hw,hS⟩
  ·simp only [if_neg hne];exact ⟨ho.blk (h.win p hp).1 (Ne.symm (h.ml.ne (h.win p hp).1)),(h.win p hp).2⟩
 ·intro p hp q hq e
  rcases mem_ins.1 hp with rfl|⟨hp,hnp⟩ <;> rcases mem_ins.1 hq with rfl|⟨hq,hnq⟩
  ·rfl
  ·simp only [if_pos,if_neg hnq] at e
   have:=(H.win q hq).1.lt;omega
  ·simp only [if_pos,if_neg hnp] at e
   have:=(H.win p hp).1.lt;omega
  ·simp only [if_neg hnp,if_neg hnq] at e
   exact H.inj p hp q hq e
omit H in
theorem hear_new (n boot seq now:Int) (hn:nodeB n=true) (hb:serMay boot=true) (hs:serMay seq=true) (hw:timeB now=true) (h1:lk t.lives n=none) (h2:lk t.ents n=none) (h3:(t.ents.length:Int)<t.most) :
  t.hear n boot seq now=({ t with lives:=ins t.lives n ⟨boot,false,⟨true,seq,1⟩⟩,ents:=ins t.ents n ⟨n,boot,now,false,.zero,0⟩ },0):=by
 have hbe:t.begin n boot=(t,(⟨boot,false,⟨false,0,0⟩⟩,0)):=by unfold TabD.begin;rw [h1];simp only;rw [h2]
 have hhe:WinD.hear ⟨false,0,0⟩ seq=(⟨true,seq,1⟩,0):=by unfold WinD.hear;rw [if_neg (by rw [hs];decide),if_pos rfl]
 unfold TabD.hear
 rw [if_neg (by simp [hn,hb,hs,hw]),hbe]
 simp only [ne_eq,not_true_eq_false,if_false]
 rw [hhe]
 simp only [ne_eq,not_true_eq_false,if_false,h2]
 rw [if_neg (by omega)]
theorem tabHear_new (OK:TabOK t) (hS:∀ k,w.heap.size≤k→S k) (n boot seq now:Int) (hn:nodeB n=true) (hb:serMay boot=true) (hs:serMay seq=true) (hw:timeB now=true) (h1:lk t.lives n=none) (h2:lk t.ents n=none) (h3:(t.ents.length:Int)<t.most) :
  Calls Tryz.prog 195 #[.pointer (some ⟨g,0,none⟩),.int .i64 n,.int .i64 boot,.int .i64 seq,.int .i64 now] w fun e w'=>e = .returned (.int .i64 0)∧TurnsT S [375] true w w'∧∃ L',TabAt S w' g L' (t.hear n boot seq now).1:=by
 have EV:=Lib.hid (hear_new (t:=t) n boot seq now hn hb hs hw h1 h2 h3)
 have hN : -9223372036854775808≤n∧n≤9223372036854775807:=by
  have h':0≤n∧n<64:=by simpa [nodeB] using hn
  omega
 have hb':=(serMay_iff _).1 hb
 have hs':=(serMay_iff _).1 hs
 have HL:Hid (lk (t.ents.map fun p=>(p.1,entV p.2)) n=none):=by show _=_;rw [lk_ents,h2];rfl
 have HH:=Lib.hid H
 have HN:=Lib.hid hN
 have HBG:=Lib.hid (begin_new H n boot hN h1 h2)
 have HK:=Lib.hid OK.len
 have H1:=Lib.hid h1
 have Hn:=Lib.hid hn
 have Hb:=Lib.hid hb
 have Hs:=Lib.hid hs
 have Hw:=Lib.hid hw
 have HS:=Lib.hid hS
 have Hs2:=Lib.hid hs'
 have H3:=Lib.hid h3
 clear h3
 obtain ⟨y1,c1,f1,-⟩:=bk_o H.blk
 clear H hn hb hs hw h1 h2 hS hN hb' hs'
 go_enter Tryz.func195,Tryz.ntmps195
 go_wp2_with (first
  | (go_at_call 252;refine (tabNode_c _ Hn.out _).mono ?_;rintro e w1 ⟨rfl,h⟩;have h9:=h.symm;subst h9)
  | (go_at_call 115;refine (serMay_c _ _ Hb.out _).mono ?_;rintro e w1 ⟨rfl,h⟩;have h9:=h.symm;subst h9)
  | (go_at_call 115;refine (serMay_c _ _ Hs.out _).mono ?_;rintro e w1 ⟨rfl,h⟩;have h9:=h.symm;subst h9)
  | (go_at_call 253;refine (tabTime_c _ Hw.out _).mono ?_;rintro e w1 ⟨rfl,h⟩;have h9:=h.symm;subst h9)
  | (go_at_call 254;refine HBG.out.mono ?_;rintro e w2 ⟨b,rfl,hb0,hb1,hb2⟩))
 refine name_wp ?_;intro u hu
 have UC:Hid (Blk u w2.heap.size #[.int .i64 boot,.bool false,.pointer (some ⟨b,0,none⟩)] 344):=by rw [hu];exact Blk.new _ _ _
 have UW:Hid (Blk u b (winC ⟨false,0,0⟩) 375):=by rw [hu];exact hb1.alloc _
 have UB:Hid (Below w.heap.size w u):=by rw [hu];exact hb2.alloc hb2.size _
 have UH:=HH.out.below UB.out
 have hbl:=UW.out.lt
 have hz:=hb2.size
 clear hu hb1 hb2 y1 c1 f1
 obtain ⟨w3,hrun,hM3,hO3⟩:=UH.ml.store_run 126 344 Tryz.underlying126 (by have:=HK.out.2;simp [maxLen];omega) n HN.out (lifV b ⟨boot,false,⟨false,0,0⟩⟩)
 have hne:b≠L.ml:=Ne.symm (UH.ml.ne UW.out)
 have WW:Hid (Blk w3 b (winC ⟨false,0,0⟩) 375):=hO3.blk UW.out hne
 have WC:Hid (Blk w3 w2.heap.size #[.int .i64 boot,.bool false,.pointer (some ⟨b,0,none⟩)] 344):=hO3.blk UC.out (Ne.symm (UH.ml.ne UC.out))
 have WO:Hid (OnlyAt L.ml w w3):=(OnlyAt.of_below UB.out).trans hO3
 have WM:=Lib.hid hM3
 have WT:Hid (Blk w3 g #[.int .i64 t.most,.map (some L.me),.map (some L.ml)] 128):=hO3.blk UH.blk (Ne.symm (UH.ml.ne UH.blk))
 have WE:Hid (MapAt w3 L.me (t.ents.map fun p=>(p.1,entV p.2))):=MapAt.only UH.me hO3 UH.ne
 obtain ⟨y1,c1,f1,-⟩:=bk_o UH.blk
 obtain ⟨y2,c2,f2,-⟩:=bk_o UC.out
 have r2:=UC.out.row?_all 3 rfl
 clear UH hM3 hO3
 go_region
 clear y1 c1 f1 y2 c2 f2 r2 hrun
 obtain ⟨y2,c2,f2,-⟩:=bk_o WC.out
 have hzb:w.heap.size≤b:=hb0
 have KF:∀ w4,OnlyAt b w3 w4→Blk w4 b (winC ⟨true,seq,1⟩) 375→OnlyAt L.ml w w4∧TabAt S w4 g { L with wb:=fun k=>if k=n then b else L.wb k } { t with lives:=ins t.lives n ⟨boot,false,⟨true,seq,1⟩⟩ }:=by
  intro w4 hO4 hW4
  have XO:OnlyAt L.ml w w4:=⟨hO4.os.trans WO.out.os,hO4.tape.trans WO.out.tape,hO4.output.trans WO.out.output,Nat.le_trans WO.out.size hO4.size,fun k hk hne'=>(hO4.block k (Nat.lt_of_lt_of_le hk WO.out.size) (by omega)).trans (WO.out.block k hk hne')⟩
  exact ⟨XO,TabAt.new_life HH.out n (Below.refl _ _) hzb XO ⟨boot,false,⟨true,seq,1⟩⟩ hW4 (HS.out b hzb) H1.out (MapAt.only WM.out hO4 (Ne.symm hne))⟩
 have KG:=Lib.hid KF
 clear KF
 go_wp2_with (first
  | (go_at_call 255;refine (winHear_n b seq w3 WW Hs2.out.1 Hs2.out.2).mono ?_;rintro e w4 ⟨rfl,hO4,hW4⟩;obtain ⟨XO,XT⟩:=KG.out w4 hO4 hW4;clear hO4 hW4;obtain ⟨y1,c1,f1,-⟩:=bk_o XT.blk;replace XT:=Lib.hid XT;replace XO:=Lib.hid XO)
  | (at_lookup;refine wpList_lookM rfl _ _ 125 99 rfl Tryz.underlying125 _ zeroEnt L.me _ rfl (XT.out.me.below below_byR) n rfl HN.out _ HL.out ?_))
 have hz4:w.heap.size≤w4.heap.size:=XO.out.size
 refine name_wp ?_;intro u2 hu2
 have AL:Below w4.heap.size w4 u2:=by rw [hu2];exact (Below.refl _ _).alloc (Nat.le_refl _) _
 have UE:Hid (Blk u2 w4.heap.size (entC .zero) 99):=by rw [hu2];exact Blk.new _ _ _
 have UT:=Lib.hid (XT.out.below AL)
 have UO:Hid (OnlyAt L.ml w u2):=XO.out.trans (OnlyAt.of_below AL)
 clear hu2 XT XO AL y1 c1 f1
 have hq:=fun d os ty=>MapAt.len_regrown UT.out.me 125 99 Tryz.underlying125 d os ty
 have q0:=fun d os=>cell_regrown (UT.out.blk.cell (i:=0) rfl) d os
 have q1:=fun d os=>cell_regrown (UT.out.blk.cell (i:=1) rfl) d os
 rw [List.length_map] at hq
 have h3:=H3.out
 refine wp_region_quiet_below (by kernel_rfl) (by kernel_rfl) ?_
 repeat (go_big_quiet_step (fail))
 refine wpQuiet_nil ?_
 intro wq hwq
 have hbq:=below_of_regrown hwq
 have VT:=Lib.hid (UT.out.below hbq)
 have VE:=Lib.hid (UE.out.keep hbq)
 have VO:Hid (OnlyAt L.ml w wq):=UO.out.trans (OnlyAt.of_below hbq)
 clear hwq hbq UT UE UO hq q0 q1
 obtain ⟨y3,c3,f3,-⟩:=bk_o VE.out
 go_wp2_with fail
 refine name_wp ?_;intro u5 hu5
 have XE:Hid (Blk u5 w4.heap.size (entC ⟨n,boot,now,false,.zero,0⟩) 99):=by rw [hu5];have XX:=VE.out;exact (by apply Blk.of_eq;(focus (repeat (first|with_reducible exact XX|with_reducible apply Blk.drew|with_reducible apply blk_drewN|with_reducible apply Blk.alloc|with_reducible apply Blk.setCell_same)));first|rfl|(simp;done))
 have XO5:OnlyAt w4.heap.size wq u5:=by rw [hu5];exact (show OnlyAt _ _ _ from (by repeat (first|with_reducible exact OnlyAt.refl|with_reducible refine OnlyAt.drew ?_|with_reducible refine OnlyAt.setCell ?_ _ _|(with_reducible refine OnlyAt.setNew ?_ ?hB _ _;case hB=>(first|omega|(simp;done)|(simp;omega)))|with_reducible refine OnlyAt.alloc ?_ _|with_reducible refine OnlyAt.trans ?_ (OnlyAt.of_below (by assumption))|with_reducible refine OnlyAt.trans ?_ (by assumption))))
 have XT5:TabAt S u5 g { L with wb:=fun k=>if k=n then b else L.wb k } { t with lives:=ins t.lives n ⟨boot,false,⟨true,seq,1⟩⟩ }:=VT.out.only XO5 VE.out (by decide) (by decide)
 have XO6:OnlyAt L.ml w u5:=⟨XO5.os.trans VO.out.os,XO5.tape.trans VO.out.tape,XO5.output.trans VO.out.output,Nat.le_trans VO.out.size XO5.size,fun k hk hne'=>(XO5.block k (Nat.lt_of_lt_of_le hk VO.out.size) (by omega)).trans (VO.out.block k hk hne')⟩
 clear hu5 XO5 VT VE VO y3 c3 f3
 obtain ⟨w9,hrun9,hO9,hT9⟩:=XT5.store n HN.out HK.out.1 ⟨n,boot,now,false,.zero,0⟩
 obtain ⟨y1,c1,f1,-⟩:=bk_o XT5.blk
 have r3:=XE.out.row?_all 10 rfl
 have hml:TurnsT S [375] true w w9:=by
  refine ⟨hO9.os.trans XO6.os,hO9.tape.trans XO6.tape,hO9.output.trans XO6.output,Nat.le_trans XO6.size hO9.size,fun k hk hn'=>?_⟩
  have k1:k≠L.ml:=fun e=>hn' (by subst e;exact ⟨HH.out.sl,OfT.map HH.out.ml⟩)
  have k2:k≠L.me:=fun e=>hn' (by subst e;exact ⟨HH.out.sm,OfT.map HH.out.me⟩)
  exact (hO9.block k (Nat.lt_of_lt_of_le hk XO6.size) k2).trans (XO6.block k hk k1)
 have RM:=Lib.hid hml
 have RT:=Lib.hid hT9
 clear hml hT9 XT5 hO9 XO6
 go_region
 go_wp2_with fail
 go_ret
 exact ⟨rfl,RM.out,_,by rw [EV.out];exact RT.out⟩
end
end Go.Proofs.YtechbdnhalmobaaGreatDoor
