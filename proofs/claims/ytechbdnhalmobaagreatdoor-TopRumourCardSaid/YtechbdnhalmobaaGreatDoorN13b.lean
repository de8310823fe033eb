/- The walk of frame.Decode: a frame that may not be. -/
import Derived.Test.YtechbdnhalmobaaGreatDoorN10
import Derived.Test.YtechbdnhalmobaaGreatDoorA5
import Derived.Lib.QuietBelow
import Derived.BigQuiet
import Derived.BigRegion
import Derived.OwnWalk
import Derived.Deep.RegionHeld3
import Derived.Deep.Cut
namespace Go.Proofs.YtechbdnhalmobaaGreatDoor
set_option maxRecDepth 100000
set_option maxHeartbeats 16000000
set_option linter.unusedSimpArgs false
set_option linter.unusedVariables false
open Go.RowKit
theorem decode_n (v:Value) (l:List Nat) (w:World) (h:RdB w v l) (hl:l.length=80) (hm:l.take 4 = [97,108,105,49]) (hsum:nAt l 76 4=crc (l.take 76)) (hmay:mayF (frL l)=false) :
  Calls Tryz.prog 193 #[v] w fun e w'=>e = .returned (.tuple #[frZ,.int .i64 5])∧Below w.heap.size w w':=by
 obtain ⟨zk,hk⟩:∃ z,wrap64 (nAt l 4 1)=z:=⟨_,rfl⟩
 obtain ⟨zs,hs⟩:∃ z,wrap64 (nAt l 5 1)=z:=⟨_,rfl⟩
 obtain ⟨zds,hds⟩:∃ z,wrap64 (nAt l 6 1)=z:=⟨_,rfl⟩
 obtain ⟨zwh,hwh⟩:∃ z,wrap64 (nAt l 7 1)=z:=⟨_,rfl⟩
 obtain ⟨zbo,hbo⟩:∃ z,wrap64 (nAt l 8 2)=z:=⟨_,rfl⟩
 obtain ⟨zsq,hsq⟩:∃ z,wrap64 (nAt l 10 2)=z:=⟨_,rfl⟩
 obtain ⟨zst,hst⟩:∃ z,wrap64 (nAt l 12 8)=z:=⟨_,rfl⟩
 obtain ⟨zta,hta⟩:∃ z,wrap64 (nAt l 20 8)=z:=⟨_,rfl⟩
 obtain ⟨ztb,htb⟩:∃ z,wrap64 (nAt l 28 8)=z:=⟨_,rfl⟩
 obtain ⟨zwn,hwn⟩:∃ z,wrap64 (nAt l 36 8)=z:=⟨_,rfl⟩
 obtain ⟨zx,hx⟩:∃ z,wrap32 (nAt l 44 4)=z:=⟨_,rfl⟩
 obtain ⟨zy,hy⟩:∃ z,wrap32 (nAt l 48 4)=z:=⟨_,rfl⟩
 obtain ⟨za,ha⟩:∃ z,wrap64 (nAt l 52 8)=z:=⟨_,rfl⟩
 obtain ⟨zbb,hbb⟩:∃ z,wrap64 (nAt l 60 8)=z:=⟨_,rfl⟩
 obtain ⟨zd,hd⟩:∃ z,wrap64 (nAt l 68 8)=z:=⟨_,rfl⟩
 have HF:Hid (frL l=⟨zk,zs,zbo,zsq,zst,zds,zta,ztb,zwh,zwn,zx,zy,za,zbb,zd⟩):=by show _=_;unfold frL;rw [hk,hs,hds,hwh,hbo,hsq,hst,hta,htb,hwn,hx,hy,ha,hbb,hd]
 rw [HF.out] at hmay
 replace hk:=Lib.hid hk
 replace hs:=Lib.hid hs
 replace hds:=Lib.hid hds
 replace hwh:=Lib.hid hwh
 replace hbo:=Lib.hid hbo
 replace hsq:=Lib.hid hsq
 replace hst:=Lib.hid hst
 replace hta:=Lib.hid hta
 replace htb:=Lib.hid htb
 replace hwn:=Lib.hid hwn
 replace hx:=Lib.hid hx
 replace hy:=Lib.hid hy
 replace ha:=Lib.hid ha
 replace hbb:=Lib.hid hbb
 replace hd:=Lib.hid hd
 have HM:=Lib.hid hmay
 clear hmay
 obtain ⟨ao,cap,rfl⟩:=h.form
 have hy:=h.1
 have hcap:80≤cap:=by obtain ⟨_,_,_,e,hc,_⟩:=h;cases e;omega
 obtain ⟨b,o,rfl,hb,hc0⟩:∃ b o,ao=some ⟨b,o,none⟩∧b<w.heap.size∧w.cell? ⟨b,o+0,none⟩=some (.int .u8 ((l.getD 0 0:Nat):Int)):=by
  obtain ⟨_,ao',_,e,_,H⟩:=h;cases e;exact H 0 (by omega)
 have h4:=h.cutL 4 cap (by omega) (by omega)
 have HD:=Lib.hid (h.cutR 76 4 (cap-76) (by omega) (by omega))
 have HD4:=Lib.hid (h.cutR 4 76 (cap-4) (by omega) (by omega))
 have HS:=Lib.hid (h.cutL 76 cap (by omega) (by omega))
 rw [hl] at h
 rw [hl]
 have hcv:=conv_rd (h4.below (w':=w.alloc (Obj.cells #[.int .i64 0,.int .i64 0,.int .i64 0,.int .i64 0,.int .i64 0,.int .i64 0,.int .i64 0,.int .i64 0,.int .i64 0,.int .i64 0,.int .i64 0,.int .i64 0,.int .i64 0,.int .i64 0,.int .i64 0] 193)) ((Below.refl _ _).alloc (Nat.le_refl _) _))
 rw [hm] at hcv
 have hne:∀ w',Sem.run Tryz.prog (binOp .neq 9 (strB [97,108,105,49]) (Value.string { data:=#[97,108,105,49] })) w' = .ok (.bool false) w':=fun w'=>neq_strB [97,108,105,49] [97,108,105,49] (by intro c hc;simp at hc;omega) (by intro c hc;simp at hc;omega) 9 w'
 have hgd:∀ (x y:Operand) (w':World),Sem.run Tryz.prog (eqGuard .neq 9 x y (strB [97,108,105,49]) (Value.string { data:=#[97,108,105,49] })) w' = .ok () w':=fun x y w'=>eqg_strB .neq 9 x y [97,108,105,49] [97,108,105,49] w'
 have HL:=Lib.hid hl
 have hnl:nAt l 76 4<4294967296:=by unfold nAt;exact nb_lt4 (byt_take (byt_drop hy 76) 4) (by rw [List.length_take,List.length_drop];omega)
 have HY:=Lib.hid hy
 have c76:(76:Int)≤(cap:Int):=by omega
 have c4:(4:Int)≤(cap:Int):=by omega
 have d76:¬ cap-76=0:=by omega
 have d4:¬ cap-4=0:=by omega
 clear hm h4 h hc0 hl hy
 go_enter Tryz.func193,Tryz.ntmps193
 go_wp2_with fail
 refine name_wp ?_;intro u0 hu0
 obtain ⟨b0,hb0⟩:∃ b0,b0=w.heap.size:=⟨_,rfl⟩
 have R0:Hid (Blk u0 b0 #[.int .i64 0,.int .i64 0,.int .i64 0,.int .i64 0,.int .i64 0,.int .i64 0,.int .i64 0,.int .i64 0,.int .i64 0,.int .i64 0,.int .i64 0,.int .i64 0,.int .i64 0,.int .i64 0,.int .i64 0] 193):=by rw [hu0,hb0];exact (Blk.new _ _ _).alloc _
 have G1:Hid (Blk u0 (b0+1) #[.slice (some ⟨b,o+76,none⟩) 4 (cap-76)] 341):=by rw [hu0,hb0];exact Blk.new' _ _ _ (by simp)
 have hB0:Below b0 w u0:=by rw [hu0,hb0];show Below w.heap.size w _;exact below_byR
 have HB:=Lib.hid hB0
 have HB0:=Lib.hid hb0
 have hbw:Below w.heap.size w u0:=by rw [← hb0];exact hB0
 replace HD:=Lib.hid (HD.out.below hbw)
 replace HD4:=Lib.hid (HD4.out.below hbw)
 replace HS:=Lib.hid (HS.out.below hbw)
 have hbl:b<b0:=by omega
 rw [← hb0]
 have hsz:b0+1<u0.heap.size:=G1.out.lt
 clear hu0 hb0 hB0 hbw hb hcv hne hgd
 obtain ⟨N,hN⟩:∃ N,N=nAt l 76 4:=⟨_,rfl⟩
 obtain ⟨C,hC⟩:∃ C,C=crc (l.take 76):=⟨_,rfl⟩
 have hCl:C<4294967296:=by rw [hC];exact crc_lt _
 rw [← hN] at hnl
 have HN:=Lib.hid hN.symm
 have HC:=Lib.hid hC.symm
 clear hN hC
 go_cut [33] from 27 (fun s33 wc=>s33 = .bool (decide (N≠C))∧Hid (OnlyAt (b0+1) u0 wc))
 case first =>
  go_region_held3 (fun _=>True) (trivial)
   (first
    | (go_at_call 249;refine Calls.mono (take_at (b0+1) _ l 76 4 80 rfl (by decide) (by have:=HL.out;omega) (by have:=HL.out;omega) _ (by first|exact G1.out|exact G1.out.drew) (by first|exact HD.out|exact HD.out.below (Below.refl _ _).drew)) ?_;rintro e w2 ⟨⟨v2,rfl,hG2,hR2⟩,ho2⟩;rw [HN.out])
    | (go_at_call 183;refine Calls.mono (sum_x _ (l.take 76) C _ HC.out (by first|exact rd_only ho2 G1.out HS.out|exact (rd_only ho2 G1.out HS.out).below (Below.refl _ _).drew) (by rw [List.length_take];omega)) ?_;rintro e w3 ⟨rfl,hb3⟩))
  go_wp2_with fail
  go_meet
  exact ⟨congrArg Value.bool (ne_words N C hnl hCl),(show OnlyAt (b0+1) u0 w2 from by first|exact ho2|exact ho2.undrew).trans (OnlyAt.of_below (by first|exact hb3|exact below_undrew hb3))⟩
 case rest =>
  obtain ⟨rfl,ho⟩:=hcut
  replace HD4:=Lib.hid (rd_only ho.out G1.out HD4.out)
  replace R0:=Lib.hid (ho.out.blk R0.out (by omega))
  have hsw:=ho.out.size
  replace HB:=Lib.hid (ho.out.below HB.out (by rw [HB0.out];exact Nat.le_refl _) (Nat.le_succ _))
  clear ho G1 HD HS
  have hd:decide (N≠C)=false:=decide_eq_false (by rw [← HN.out,← HC.out];simp [hsum])
  rw [hd]
  clear hd
  go_wp2_with fail
  refine name_calls ?_;intro u1 hu1
  obtain ⟨g2,hg2⟩:∃ g2,g2=wc.heap.size:=⟨_,rfl⟩
  have G2:Hid (Blk u1 g2 #[.slice (some ⟨b,o+4,none⟩) 76 (cap-4)] 341):=by rw [hu1,hg2];exact Blk.new _ _ _
  replace R0:Hid (Blk u1 b0 #[.int .i64 0,.int .i64 0,.int .i64 0,.int .i64 0,.int .i64 0,.int .i64 0,.int .i64 0,.int .i64 0,.int .i64 0,.int .i64 0,.int .i64 0,.int .i64 0,.int .i64 0,.int .i64 0,.int .i64 0] 193):=by rw [hu1];exact R0.out.alloc _
  have hbA:Below wc.heap.size wc u1:=by rw [hu1];exact (Below.refl _ _).alloc (Nat.le_refl _) _
  have hgl:b0+1<g2:=by rw [hg2];omega
  replace HB:=Lib.hid (HB.out.trans (hbA.mono (by omega)))
  replace HD4:=Lib.hid (HD4.out.below hbA)
  rw [← hg2]
  clear hu1 hg2 hbA
  refine Calls.mono (take_x g2 _ l 4 1 5 zk rfl hk.out (by decide) (by have:=HL.out;omega) (by have:=HL.out;omega) _ G2.out HD4.out) ?_;rintro e x2 ⟨⟨v2,rfl,hG,hR⟩,ho⟩
  replace G2:=Lib.hid hG;replace HD4:=Lib.hid hR
  replace R0:=Lib.hid (ho.blk R0.out (by omega))
  replace HB:=Lib.hid (ho.below HB.out (by rw [HB0.out];exact Nat.le_refl _) (by omega))
  clear ho hG hR
  go_wp2_with fail
  refine Calls.mono (take_x g2 _ l 5 1 6 zs rfl hs.out (by decide) (by have:=HL.out;omega) (by have:=HL.out;omega) _ G2.out HD4.out) ?_;rintro e x3 ⟨⟨v3,rfl,hG,hR⟩,ho⟩
  replace G2:=Lib.hid hG;replace HD4:=Lib.hid hR
  replace R0:=Lib.hid (ho.blk R0.out (by omega))
  replace HB:=Lib.hid (ho.below HB.out (by rw [HB0.out];exact Nat.le_refl _) (by omega))
  clear ho hG hR
  go_wp2_with fail
  refine Calls.mono (take_x g2 _ l 6 1 7 zds rfl hds.out (by decide) (by have:=HL.out;omega) (by have:=HL.out;omega) _ G2.out HD4.out) ?_;rintro e x4 ⟨⟨v4,rfl,hG,hR⟩,ho⟩
  replace G2:=Lib.hid hG;replace HD4:=Lib.hid hR
  replace R0:=Lib.hid (ho.blk R0.out (by omega))
  replace HB:=Lib.hid (ho.below HB.out (by rw [HB0.out];exact Nat.le_refl _) (by omega))
  clear ho hG hR
  go_wp2_with fail
  refine Calls.mono (take_x g2 _ l 7 1 8 zwh rfl hwh.out (by decide) (by have:=HL.out;omega) (by have:=HL.out;omega) _ G2.out HD4.out) ?_;rintro e x5 ⟨⟨v5,rfl,hG,hR⟩,ho⟩
  replace G2:=Lib.hid hG;replace HD4:=Lib.hid hR
  replace R0:=Lib.hid (ho.blk R0.out (by omega))
  replace HB:=Lib.hid (ho.below HB.out (by rw [HB0.out];exact Nat.le_refl _) (by omega))
  clear ho hG hR
  go_wp2_with fail
  refine name_calls ?_;intro u2 hu2
  obtain ⟨gf,hgf⟩:∃ gf,gf=x5.heap.size:=⟨_,rfl⟩
  have hg2l:=G2.out.lt
  have GF:Hid (Blk u2 gf #[.int .i64 zk,.int .i64 zs,.int .i64 0,.int .i64 0,.int .i64 0,.int .i64 zds,.int .i64 0,.int .i64 0,.int .i64 zwh,.int .i64 0,.int .i64 0,.int .i64 0,.int .i64 0,.int .i64 0,.int .i64 0] 193):=by rw [hu2,hgf];exact Blk.new _ _ _
  replace G2:=(show Hid (Blk u2 g2 _ 341) by rw [hu2];exact G2.out.alloc _)
  replace R0:Hid (Blk u2 b0 #[.int .i64 0,.int .i64 0,.int .i64 0,.int .i64 0,.int .i64 0,.int .i64 0,.int .i64 0,.int .i64 0,.int .i64 0,.int .i64 0,.int .i64 0,.int .i64 0,.int .i64 0,.int .i64 0,.int .i64 0] 193):=by rw [hu2];exact R0.out.alloc _
  have hbA:Below x5.heap.size x5 u2:=by rw [hu2];exact (Below.refl _ _).alloc (Nat.le_refl _) _
  have hgf2:g2<gf:=by omega
  replace HB:=Lib.hid (HB.out.trans (hbA.mono (by omega)))
  replace HD4:=Lib.hid (HD4.out.below hbA)
  have hFb:b<gf:=by omega
  rw [← hgf]
  clear hu2 hgf hbA hg2l
  refine Calls.mono (take_x g2 _ l 8 2 10 zbo rfl hbo.out (by decide) (by have:=HL.out;omega) (by have:=HL.out;omega) _ G2.out HD4.out) ?_;rintro e x6 ⟨⟨v6,rfl,hG,hR⟩,ho⟩
  replace G2:=Lib.hid hG;replace HD4:=Lib.hid hR
  replace R0:=Lib.hid (ho.blk R0.out (by omega))
  replace GF:=Lib.hid (ho.blk GF.out (by omega))
  replace HB:=Lib.hid (ho.below HB.out (by rw [HB0.out];exact Nat.le_refl _) (by omega))
  clear ho hG hR
  go_wp2_with fail
  refine Calls.mono (take_x g2 _ l 10 2 12 zsq rfl hsq.out (by decide) (by have:=HL.out;omega) (by have:=HL.out;omega) _ G2.out HD4.out) ?_;rintro e x7 ⟨⟨v7,rfl,hG,hR⟩,ho⟩
  replace G2:=Lib.hid hG;replace HD4:=Lib.hid hR
  replace R0:=Lib.hid (ho.blk R0.out (by omega))
  replace GF:=Lib.hid (ho.blk GF.out (by omega))
  replace HB:=Lib.hid (ho.below HB.out (by rw [HB0.out];exact Nat.le_refl _) (by omega))
  clear ho hG hR
  have lf:=GF.out.lt;have ff:=GF.out.frozen
  have q2:=GF.out.cell (i:=2) (v := .int .i64 0) rfl
  have q3:=GF.out.cell (i:=3) (v := .int .i64 0) rfl
  go_wp2_with fail
  refine name_calls ?_;intro y0 hy0
  have hne2:g2≠gf:=by omega
  have hne0:b0≠gf:=by omega
  replace G2:=(show Hid (Blk y0 g2 _ 341) by rw [hy0];exact ((G2.out.setCell_other hne2 _).setCell_other hne2 _))
  replace R0:=(show Hid (Blk y0 b0 #[.int .i64 0,.int .i64 0,.int .i64 0,.int .i64 0,.int .i64 0,.int .i64 0,.int .i64 0,.int .i64 0,.int .i64 0,.int .i64 0,.int .i64 0,.int .i64 0,.int .i64 0,.int .i64 0,.int .i64 0] 193) by rw [hy0];exact ((R0.out.setCell_other hne0 _).setCell_other hne0 _))
  have hbS:OnlyAt gf x7 y0:=by rw [hy0];exact ((OnlyAt.refl.setCell 2 _).setCell 3 _)
  replace HD4:=Lib.hid (rd_only15 hbS GF.out HD4.out)
  have GF2:Hid (Blk y0 gf #[.int .i64 zk,.int .i64 zs,.int .i64 zbo,.int .i64 zsq,.int .i64 0,.int .i64 zds,.int .i64 0,.int .i64 0,.int .i64 zwh,.int .i64 0,.int .i64 0,.int .i64 0,.int .i64 0,.int .i64 0,.int .i64 0] 193):=by rw [hy0];exact Blk.of_eq (((GF.out.setCell_same 2 _).setCell_same 3 _)) (by simp)
  replace GF:=GF2
  replace HB:=Lib.hid (hbS.below HB.out (by rw [HB0.out];exact Nat.le_refl _) (by omega))
  clear GF2 hbS hne2 hne0 hy0 lf ff q2 q3
  refine Calls.mono (take_x g2 _ l 12 8 20 zst rfl hst.out (by decide) (by have:=HL.out;omega) (by have:=HL.out;omega) _ G2.out HD4.out) ?_;rintro e x8 ⟨⟨v8,rfl,hG,hR⟩,ho⟩
  replace G2:=Lib.hid hG;replace HD4:=Lib.hid hR
  replace R0:=Lib.hid (ho.blk R0.out (by omega))
  replace GF:=Lib.hid (ho.blk GF.out (by omega))
  replace HB:=Lib.hid (ho.below HB.out (by rw [HB0.out];exact Nat.le_refl _) (by omega))
  clear ho hG hR
  go_wp2_with fail
  refine Calls.mono (take_x g2 _ l 20 8 28 zta rfl hta.out (by decide) (by have:=HL.out;omega) (by have:=HL.out;omega) _ G2.out HD4.out) ?_;rintro e x9 ⟨⟨v9,rfl,hG,hR⟩,ho⟩
  replace G2:=Lib.hid hG;replace HD4:=Lib.hid hR
  replace R0:=Lib.hid (ho.blk R0.out (by omega))
  replace GF:=Lib.hid (ho.blk GF.out (by omega))
  replace HB:=Lib.hid (ho.below HB.out (by rw [HB0.out];exact Nat.le_refl _) (by omega))
  clear ho hG hR
  go_wp2_with fail
  refine Calls.mono (take_x g2 _ l 28 8 36 ztb rfl htb.out (by decide) (by have:=HL.out;omega) (by have:=HL.out;omega) _ G2.out HD4.out) ?_;rintro e x10 ⟨⟨v10,rfl,hG,hR⟩,ho⟩
  replace G2:=Lib.hid hG;replace HD4:=Lib.hid hR
  replace R0:=Lib.hid (ho.blk R0.out (by omega))
  replace GF:=Lib.hid (ho.blk GF.out (by omega))
  replace HB:=Lib.hid (ho.below HB.out (by rw [HB0.out];exact Nat.le_refl _) (by omega))
  clear ho hG hR
  go_wp2_with fail
  refine Calls.mono (take_x g2 _ l 36 8 44 zwn rfl hwn.out (by decide) (by have:=HL.out;omega) (by have:=HL.out;omega) _ G2.out HD4.out) ?_;rintro e x11 ⟨⟨v11,rfl,hG,hR⟩,ho⟩
  replace G2:=Lib.hid hG;replace HD4:=Lib.hid hR
  replace R0:=Lib.hid (ho.blk R0.out (by omega))
  replace GF:=Lib.hid (ho.blk GF.out (by omega))
  replace HB:=Lib.hid (ho.below HB.out (by rw [HB0.out];exact Nat.le_refl _) (by omega))
  clear ho hG hR
  have lf:=GF.out.lt;have ff:=GF.out.frozen
  have q4:=GF.out.cell (i:=4) (v := .int .i64 0) rfl
  have q6:=GF.out.cell (i:=6) (v := .int .i64 0) rfl
  have q7:=GF.out.cell (i:=7) (v := .int .i64 0) rfl
  have q9:=GF.out.cell (i:=9) (v := .int .i64 0) rfl
  go_wp2_with fail
  refine name_calls ?_;intro y1 hy1
  have hne2:g2≠gf:=by omega
  have hne0:b0≠gf:=by omega
  replace G2:=(show Hid (Blk y1 g2 _ 341) by rw [hy1];exact ((((G2.out.setCell_other hne2 _).setCell_other hne2 _).setCell_other hne2 _).setCell_other hne2 _))
  replace R0:=(show Hid (Blk y1 b0 #[.int .i64 0,.int .i64 0,.int .i64 0,.int .i64 0,.int .i64 0,.int .i64 0,.int .i64 0,.int .i64 0,.int .i64 0,.int .i64 0,.int .i64 0,.int .i64 0,.int .i64 0,.int .i64 0,.int .i64 0] 193) by rw [hy1];exact ((((R0.out.setCell_other hne0 _).setCell_other hne0 _).setCell_other hne0 _).setCell_other hne0 _))
  have hbS:OnlyAt gf x11 y1:=by rw [hy1];exact ((((OnlyAt.refl.setCell 4 _).setCell 6 _).setCell 7 _).setCell 9 _)
  replace HD4:=Lib.hid (rd_only15 hbS GF.out HD4.out)
  have GF2:Hid (Blk y1 gf #[.int .i64 zk,.int .i64 zs,.int .i64 zbo,.int .i64 zsq,.int .i64 zst,.int .i64 zds,.int .i64 zta,.int .i64 ztb,.int .i64 zwh,.int .i64 zwn,.int .i64 0,.int .i64 0,.int .i64 0,.int .i64 0,.int .i64 0] 193):=by rw [hy1];exact Blk.of_eq (((((GF.out.setCell_same 4 _).setCell_same 6 _).setCell_same 7 _).setCell_same 9 _)) (by simp)
  replace GF:=GF2
  replace HB:=Lib.hid (hbS.below HB.out (by rw [HB0.out];exact Nat.le_refl _) (by omega))
  clear GF2 hbS hne2 hne0 hy1 lf ff q4 q6 q7 q9
  refine Calls.mono (small_x g2 _ l 44 48 zx rfl hx.out (by have:=HL.out;omega) (by have:=HL.out;omega) _ G2.out HD4.out) ?_;rintro e x12 ⟨⟨v12,rfl,hG,hR⟩,ho⟩
  replace G2:=Lib.hid hG;replace HD4:=Lib.hid hR
  replace R0:=Lib.hid (ho.blk R0.out (by omega))
  replace GF:=Lib.hid (ho.blk GF.out (by omega))
  replace HB:=Lib.hid (ho.below HB.out (by rw [HB0.out];exact Nat.le_refl _) (by omega))
  clear ho hG hR
  go_wp2_with fail
  refine Calls.mono (small_x g2 _ l 48 52 zy rfl hy.out (by have:=HL.out;omega) (by have:=HL.out;omega) _ G2.out HD4.out) ?_;rintro e x13 ⟨⟨v13,rfl,hG,hR⟩,ho⟩
  replace G2:=Lib.hid hG;replace HD4:=Lib.hid hR
  replace R0:=Lib.hid (ho.blk R0.out (by omega))
  replace GF:=Lib.hid (ho.blk GF.out (by omega))
  replace HB:=Lib.hid (ho.below HB.out (by rw [HB0.out];exact Nat.le_refl _) (by omega))
  clear ho hG hR
  have lf:=GF.out.lt;have ff:=GF.out.frozen
  have q10:=GF.out.cell (i:=10) (v := .int .i64 0) rfl
  have q11:=GF.out.cell (i:=11) (v := .int .i64 0) rfl
  go_wp2_with fail
  refine name_calls ?_;intro y2 hy2
  have hne2:g2≠gf:=by omega
  have hne0:b0≠gf:=by omega
  replace G2:=(show Hid (Blk y2 g2 _ 341) by rw [hy2];exact ((G2.out.setCell_other hne2 _).setCell_other hne2 _))
  replace R0:=(show Hid (Blk y2 b0 #[.int .i64 0,.int .i64 0,.int .i64 0,.int .i64 0,.int .i64 0,.int .i64 0,.int .i64 0,.int .i64 0,.int .i64 0,.int .i64 0,.int .i64 0,.int .i64 0,.int .i64 0,.int .i64 0,.int .i64 0] 193) by rw [hy2];exact ((R0.out.setCell_other hne0 _).setCell_other hne0 _))
  have hbS:OnlyAt gf x13 y2:=by rw [hy2];exact ((OnlyAt.refl.setCell 10 _).setCell 11 _)
  replace HD4:=Lib.hid (rd_only15 hbS GF.out HD4.out)
  have GF2:Hid (Blk y2 gf #[.int .i64 zk,.int .i64 zs,.int .i64 zbo,.int .i64 zsq,.int .i64 zst,.int .i64 zds,.int .i64 zta,.int .i64 ztb,.int .i64 zwh,.int .i64 zwn,.int .i64 zx,.int .i64 zy,.int .i64 0,.int .i64 0,.int .i64 0] 193):=by rw [hy2];exact Blk.of_eq (((GF.out.setCell_same 10 _).setCell_same 11 _)) (by simp)
  replace GF:=GF2
  replace HB:=Lib.hid (hbS.below HB.out (by rw [HB0.out];exact Nat.le_refl _) (by omega))
  clear GF2 hbS hne2 hne0 hy2 lf ff q10 q11
  refine Calls.mono (take_x g2 _ l 52 8 60 za rfl ha.out (by decide) (by have:=HL.out;omega) (by have:=HL.out;omega) _ G2.out HD4.out) ?_;rintro e x14 ⟨⟨v14,rfl,hG,hR⟩,ho⟩
  replace G2:=Lib.hid hG;replace HD4:=Lib.hid hR
  replace R0:=Lib.hid (ho.blk R0.out (by omega))
  replace GF:=Lib.hid (ho.blk GF.out (by omega))
  replace HB:=Lib.hid (ho.below HB.out (by rw [HB0.out];exact Nat.le_refl _) (by omega))
  clear ho hG hR
  go_wp2_with fail
  refine Calls.mono (take_x g2 _ l 60 8 68 zbb rfl hbb.out (by decide) (by have:=HL.out;omega) (by have:=HL.out;omega) _ G2.out HD4.out) ?_;rintro e x15 ⟨⟨v15,rfl,hG,hR⟩,ho⟩
  replace G2:=Lib.hid hG;replace HD4:=Lib.hid hR
  replace R0:=Lib.hid (ho.blk R0.out (by omega))
  replace GF:=Lib.hid (ho.blk GF.out (by omega))
  replace HB:=Lib.hid (ho.below HB.out (by rw [HB0.out];exact Nat.le_refl _) (by omega))
  clear ho hG hR
  go_wp2_with fail
  refine Calls.mono (take_x g2 _ l 68 8 76 zd rfl hd.out (by decide) (by have:=HL.out;omega) (by have:=HL.out;omega) _ G2.out HD4.out) ?_;rintro e x16 ⟨⟨v16,rfl,hG,hR⟩,ho⟩
  replace G2:=Lib.hid hG;replace HD4:=Lib.hid hR
  replace R0:=Lib.hid (ho.blk R0.out (by omega))
  replace GF:=Lib.hid (ho.blk GF.out (by omega))
  replace HB:=Lib.hid (ho.below HB.out (by rw [HB0.out];exact Nat.le_refl _) (by omega))
  clear ho hG hR
  have lf:=GF.out.lt;have ff:=GF.out.frozen
  have q12:=GF.out.cell (i:=12) (v := .int .i64 0) rfl
  have q13:=GF.out.cell (i:=13) (v := .int .i64 0) rfl
  have q14:=GF.out.cell (i:=14) (v := .int .i64 0) rfl
  go_upto_region 14 with fail
  refine name_wp ?_;intro y3 hy3
  have hne2:g2≠gf:=by omega
  have hne0:b0≠gf:=by omega
  replace G2:=(show Hid (Blk y3 g2 _ 341) by rw [hy3];exact (((G2.out.setCell_other hne2 _).setCell_other hne2 _).setCell_other hne2 _))
  replace R0:=(show Hid (Blk y3 b0 #[.int .i64 0,.int .i64 0,.int .i64 0,.int .i64 0,.int .i64 0,.int .i64 0,.int .i64 0,.int .i64 0,.int .i64 0,.int .i64 0,.int .i64 0,.int .i64 0,.int .i64 0,.int .i64 0,.int .i64 0] 193) by rw [hy3];exact (((R0.out.setCell_other hne0 _).setCell_other hne0 _).setCell_other hne0 _))
  have hbS:OnlyAt gf x16 y3:=by rw [hy3];exact (((OnlyAt.refl.setCell 12 _).setCell 13 _).setCell 14 _)
  replace HD4:=Lib.hid (rd_only15 hbS GF.out HD4.out)
  have GF2:Hid (Blk y3 gf #[.int .i64 zk,.int .i64 zs,.int .i64 zbo,.int .i64 zsq,.int .i64 zst,.int .i64 zds,.int .i64 zta,.int .i64 ztb,.int .i64 zwh,.int .i64 zwn,.int .i64 zx,.int .i64 zy,.int .i64 za,.int .i64 zbb,.int .i64 zd] 193):=by rw [hy3];exact Blk.of_eq ((((GF.out.setCell_same 12 _).setCell_same 13 _).setCell_same 14 _)) (by simp)
  replace GF:=GF2
  replace HB:=Lib.hid (hbS.below HB.out (by rw [HB0.out];exact Nat.le_refl _) (by omega))
  clear GF2 hbS hne2 hne0 hy3 lf ff q12 q13 q14
  obtain ⟨RR,hRR⟩:∃ R:Array Value,R=#[.int .i64 zk,.int .i64 zs,.int .i64 zbo,.int .i64 zsq,.int .i64 zst,.int .i64 zds,.int .i64 zta,.int .i64 ztb,.int .i64 zwh,.int .i64 zwn,.int .i64 zx,.int .i64 zy,.int .i64 za,.int .i64 zbb,.int .i64 zd]:=⟨_,rfl⟩
  have rw2:y3.row? gf 0 15=some RR:=by rw [hRR];exact GF.out.row?_all 15 rfl
  have HR:=Lib.hid hRR
  clear hRR
  go_wp2_with fail
  rw [HR.out]
  refine Calls.mono (framemay_v ⟨zk,zs,zbo,zsq,zst,zds,zta,ztb,zwh,zwn,zx,zy,za,zbb,zd⟩ _ HM.out _) ?_;rintro e wd ⟨rfl,hb⟩
  rw [← HR.out]
  replace GF:=Lib.hid (GF.out.keep hb)
  have hl0:=R0.out.lt
  replace R0:=Lib.hid (R0.out.keep hb)
  replace HB:=Lib.hid (HB.out.trans (hb.mono (by omega)))
  clear hb rw2 hl0 G2 HD4
  have e0:wd.setCell ⟨b0,0,none⟩ (.int .i64 0)=wd:=R0.out.setCell_self rfl
  have e1:wd.setCell ⟨b0,1,none⟩ (.int .i64 0)=wd:=R0.out.setCell_self rfl
  have e2:wd.setCell ⟨b0,2,none⟩ (.int .i64 0)=wd:=R0.out.setCell_self rfl
  have e3:wd.setCell ⟨b0,3,none⟩ (.int .i64 0)=wd:=R0.out.setCell_self rfl
  have e4:wd.setCell ⟨b0,4,none⟩ (.int .i64 0)=wd:=R0.out.setCell_self rfl
  have e5:wd.setCell ⟨b0,5,none⟩ (.int .i64 0)=wd:=R0.out.setCell_self rfl
  have e6:wd.setCell ⟨b0,6,none⟩ (.int .i64 0)=wd:=R0.out.setCell_self rfl
  have e7:wd.setCell ⟨b0,7,none⟩ (.int .i64 0)=wd:=R0.out.setCell_self rfl
  have e8:wd.setCell ⟨b0,8,none⟩ (.int .i64 0)=wd:=R0.out.setCell_self rfl
  have e9:wd.setCell ⟨b0,9,none⟩ (.int .i64 0)=wd:=R0.out.setCell_self rfl
  have e10:wd.setCell ⟨b0,10,none⟩ (.int .i64 0)=wd:=R0.out.setCell_self rfl
  have e11:wd.setCell ⟨b0,11,none⟩ (.int .i64 0)=wd:=R0.out.setCell_self rfl
  have e12:wd.setCell ⟨b0,12,none⟩ (.int .i64 0)=wd:=R0.out.setCell_self rfl
  have e13:wd.setCell ⟨b0,13,none⟩ (.int .i64 0)=wd:=R0.out.setCell_self rfl
  have e14:wd.setCell ⟨b0,14,none⟩ (.int .i64 0)=wd:=R0.out.setCell_self rfl
  have k0:wd.cell? ⟨b0,0,none⟩=some (.int .i64 0):=R0.out.cell rfl
  have k1:wd.cell? ⟨b0,1,none⟩=some (.int .i64 0):=R0.out.cell rfl
  have k2:wd.cell? ⟨b0,2,none⟩=some (.int .i64 0):=R0.out.cell rfl
  have k3:wd.cell? ⟨b0,3,none⟩=some (.int .i64 0):=R0.out.cell rfl
  have k4:wd.cell? ⟨b0,4,none⟩=some (.int .i64 0):=R0.out.cell rfl
  have k5:wd.cell? ⟨b0,5,none⟩=some (.int .i64 0):=R0.out.cell rfl
  have k6:wd.cell? ⟨b0,6,none⟩=some (.int .i64 0):=R0.out.cell rfl
  have k7:wd.cell? ⟨b0,7,none⟩=some (.int .i64 0):=R0.out.cell rfl
  have k8:wd.cell? ⟨b0,8,none⟩=some (.int .i64 0):=R0.out.cell rfl
  have k9:wd.cell? ⟨b0,9,none⟩=some (.int .i64 0):=R0.out.cell rfl
  have k10:wd.cell? ⟨b0,10,none⟩=some (.int .i64 0):=R0.out.cell rfl
  have k11:wd.cell? ⟨b0,11,none⟩=some (.int .i64 0):=R0.out.cell rfl
  have k12:wd.cell? ⟨b0,12,none⟩=some (.int .i64 0):=R0.out.cell rfl
  have k13:wd.cell? ⟨b0,13,none⟩=some (.int .i64 0):=R0.out.cell rfl
  have k14:wd.cell? ⟨b0,14,none⟩=some (.int .i64 0):=R0.out.cell rfl
  have f0:=R0.out.frozen
  have l0:=R0.out.lt
  have r0:=R0.out.row?_all 15 rfl
  go_wp2_with fail
  exact bodyPost_row_t 15 #[.int .i64 0,.int .i64 0,.int .i64 0,.int .i64 0,.int .i64 0,.int .i64 0,.int .i64 0,.int .i64 0,.int .i64 0,.int .i64 0,.int .i64 0,.int .i64 0,.int .i64 0,.int .i64 0,.int .i64 0] (.int .i64 5) rfl rfl rfl rfl Tryz.underlying193 rfl (by kernel_rfl) r0 ⟨rfl,by rw [← HB0.out];exact HB.out⟩
theorem decode_c (v:Value) (l:List Nat) (w:World) (h:RdB w v l) :
  Calls Tryz.prog 193 #[v] w fun e w'=>e = .returned (.tuple #[frV (decE l).1,.int .i64 (decE l).2])∧Below w.heap.size w w':=by
 unfold decE
 by_cases h1:l.length<80
 ·rw [if_pos h1];exact decode_short v l w h h1
 rw [if_neg h1]
 by_cases h2:80<l.length
 ·rw [if_pos (.inl h2)];exact decode_long v l w h h2
 by_cases h3:l.take 4 = [97,108,105,49]
 ·rw [if_neg (by rintro (h|h);exact h2 h;exact h h3)]
  by_cases h4:nAt l 76 4=crc (l.take 76)
  ·rw [if_neg (fun hn=>hn h4)]
   cases hm:mayF (frL l) with
   | true=>rw [if_pos rfl];exact decode_t v l w h (by omega) h3 h4 hm
   | false=>rw [if_neg (by decide)];exact decode_n v l w h (by omega) h3 h4 hm
  ·rw [if_pos h4];exact decode_sum v l w h (by omega) h3 h4
 ·rw [if_pos (.inr h3)];exact decode_magic v l w h (by omega) h3
theorem decode_v (v:Value) (l:List Nat) (f:FrD) (n:Int) (he:decE l=(f,n)) (w:World) (h:RdB w v l) :
  Calls Tryz.prog 193 #[v] w fun e w'=>e = .returned (.tuple #[frV f,.int .i64 n])∧Below w.heap.size w w':=by
 have:=decode_c v l w h
 rw [he] at this;exact this
theorem body_eq (f:FrD):bodyL f = [97,108,105,49]++(be 1 f.kind++(be 1 f.src++(be 1 f.dst++(be 1 f.who++(be 2 f.boot++(be 2 f.seq++(be 8 f.stamp++(be 8 f.t1++(be 8 f.t2++(be 8 f.when++(be 4 f.x++(be 4 f.y++(be 8 f.a++(be 8 f.b++be 8 f.d)))))))))))))):=by
 unfold bodyL fl
 simp [List.flatMap_cons]
theorem body_len (f:FrD):(bodyL f).length=76:=by
 rw [body_eq];simp only [List.length_append,be_length,List.length_cons,List.length_nil]
theorem enc_len (f:FrD):(encL f).length=80:=by unfold encL;rw [List.length_append,body_len,be_length]

def mayRange (lo hi:Int):Bool:=decide (0≤lo∧lo≤hi∧hi≤4194304)
def upI (z:Int):Int:=(up z.toNat:Nat)
def rtI (z:Int):Int:=(rt z.toNat:Nat)
/-! ### The ring -/
def ringLo (h w k m:Int):Int:=if 0<h-w∧0<h*(m*m)-k*k then max (h-w) (rtI (h*(m*m)-k*k)) else h-w
def ringHi (h w far:Int):Int:=min (h+w) (upI (h*(far*far)))
def ringEnd (ox oy X Y lo hi:Int):St × Int:=if hi<lo then (⟨0,0,0,0,0,0⟩,3) else if hi=lo then (⟨ox,oy,X,Y,lo,hi+1⟩,0) else (⟨ox,oy,X,Y,lo,hi⟩,0)
def ringE (e n:El) (lo hi:Int):St × Int :=
 if e.may=true∧n.may=true∧mayRange lo hi=true then
  if e.x-n.x=0∧e.y-n.y=0 then (⟨0,0,0,0,0,0⟩,7)
  else ringEnd n.x n.y (e.x-n.x) (e.y-n.y)
   (ringLo ((e.x-n.x)*(e.x-n.x)+(e.y-n.y)*(e.y-n.y)) (upI (form e.a e.b e.d (e.x-n.x) (e.y-n.y))) (upI (form e.a e.b e.d (-(e.y-n.y)) (e.x-n.x))) (max 0 (lo-n.rad)))
   (ringHi ((e.x-n.x)*(e.x-n.x)+(e.y-n.y)*(e.y-n.y)) (upI (form e.a e.b e.d (e.x-n.x) (e.y-n.y))) (hi+n.rad))
 else (⟨0,0,0,0,0,0⟩,1)
structure Ring (h w k m far l:Int):Prop where
 h0:0<h
 lw:h-w≤l
 uw:l≤h+w
 lk:h*(m*m)≤l*l+k*k
 uf:l*l≤h*(far*far)
structure Told (e n:El) (p q p' q' lo hi:Int):Prop where
 he:e.has p q=true
 hn:n.has p' q'=true
 hlo:lo*lo≤(p-p')*(p-p')+(q-q')*(q-q')
 hhi:(p-p')*(p-p')+(q-q')*(q-q')≤hi*hi
 hr:mayRange lo hi=true
section
variable {e n:El} {p q p' q' lo hi:Int} (t:Told e n p q p' q' lo hi)
include t
end
/-! ### Values of wide numbers here -/
/-! ### Ring -/
def acqE (n:El) (hi:Int):El × Int:=if n.may=true∧0≤hi∧hi≤4194304 then (if 4194304<hi+n.rad then (El.zero,2) else ballE n.x n.y (max 1 (hi+n.rad))) else (El.zero,1)



def updB (e n:El) (lo hi:Int):El × Int :=
 if (ringE e n lo hi).2=3 then (El.zero,3)
 else if (ringE e n lo hi).2=0 then (if (gcutE e (ringE e n lo hi).1).2=3 then (El.zero,3) else if (gcutE e (ringE e n lo hi).1).2=0 then ((gcutE e (ringE e n lo hi).1).1,0) else (e,0))
 else (e,0)
def updE (e n:El) (lo hi:Int):El × Int :=
 if e.may=true∧n.may=true∧mayRange lo hi=true then
  if (ballE n.x n.y (hi+n.rad)).2=0 then
   if (gfuseE e (ballE n.x n.y (hi+n.rad)).1).2=3 then (El.zero,3)
   else if (gfuseE e (ballE n.x n.y (hi+n.rad)).1).2=0 then updB (gfuseE e (ballE n.x n.y (hi+n.rad)).1).1 n lo hi
   else updB e n lo hi
  else updB e n lo hi
 else (El.zero,1)
section
variable {e n:El} {p q p' q' lo hi:Int} (t:Told e n p q p' q' lo hi)
include t
end

def takeS (v:Bool) (e f:El) (k:Int):(Bool × El) × Int:=if k=0 then ((v,f),0) else if k=3 then ((false,El.zero),3) else ((v,e),k)
theorem take_c (g:Nat) (m:Int) (v:Bool) (x y a b d x' y' a' b' d' k:Int) (w:World) (B:Blk w g (flt m v x y a b d) 119) :
  Calls Tryz.prog 334 #[.pointer (some ⟨g,0,none⟩),elC x' y' a' b' d',.int .i64 k] w fun e w'=>∃ v1 e1 k1,takeS v ⟨x,y,a,b,d⟩ ⟨x',y',a',b',d'⟩ k=((v1,e1),k1)∧e = .returned (.int .i64 k1)∧OnlyAt g w w'∧Blk w' g (flt m v1 e1.x e1.y e1.a e1.b e1.d) 119:=by
 have HB:=Lib.hid B
 obtain ⟨y1,c1,f1,-⟩:=bk_o B
 have lg:=B.lt
 by_cases k0:k=0
 ·subst k0
  have E:Hid (takeS v ⟨x,y,a,b,d⟩ ⟨x',y',a',b',d'⟩ 0=((v,⟨x',y',a',b',d'⟩),0)):=rfl
  clear B
  go_enter Tryz.func334,Tryz.ntmps334
  go_wp2_with fail
  go_ret
  refine ⟨_,_,_,E.out,rfl,(by repeat (first|with_reducible exact OnlyAt.refl|with_reducible refine OnlyAt.drew ?_|with_reducible refine OnlyAt.setCell ?_ _ _|(with_reducible refine OnlyAt.setNew ?_ ?hB _ _;case hB=>(first|omega|(simp;done)|(simp;omega)))|with_reducible refine OnlyAt.alloc ?_ _|with_reducible refine OnlyAt.trans ?_ (OnlyAt.of_below (by assumption))|with_reducible refine OnlyAt.trans ?_ (by assumption))),?_⟩
  apply Blk.of_eq
  ·repeat (first|with_reducible exact HB.out|with_reducible apply Blk.drew|with_reducible apply Blk.setCell_same|with_reducible apply Blk.alloc)
  ·rfl
 ·by_cases k3:k=3
  ·subst k3
   have E:Hid (takeS v ⟨x,y,a,b,d⟩ ⟨x',y',a',b',d'⟩ 3=((false,El.zero),3)):=rfl
   clear B
   go_enter Tryz.func334,Tryz.ntmps334
   go_wp2_with fail
   refine Calls.mono (lose_c g m _ _ _ _ _ _ _ (HB.out.alloc _)) ?_;rintro e w9 ⟨rfl,ho9,hb9⟩
   go_wp2_with fail
   go_ret
   exact ⟨_,_,_,E.out,rfl,(by repeat (first|with_reducible exact OnlyAt.refl|with_reducible refine OnlyAt.drew ?_|with_reducible refine OnlyAt.setCell ?_ _ _|(with_reducible refine OnlyAt.setNew ?_ ?hB _ _;case hB=>(first|omega|(simp;done)|(simp;omega)))|with_reducible refine OnlyAt.alloc ?_ _|with_reducible refine OnlyAt.trans ?_ (OnlyAt.of_below (by assumption))|with_reducible refine OnlyAt.trans ?_ (by assumption))),hb9⟩
  ·have E:Hid (takeS v ⟨x,y,a,b,d⟩ ⟨x',y',a',b',d'⟩ k=((v,⟨x,y,a,b,d⟩),k)):=show _=_ from by unfold takeS;rw [if_neg k0,if_neg k3]
   have b0:(k==0)=false:=by simp [k0]
   have b3:(k==3)=false:=by simp [k3]
   clear B
   go_enter Tryz.func334,Tryz.ntmps334
   go_wp2_with fail
   go_ret
   exact ⟨_,_,_,E.out,rfl,(by repeat (first|with_reducible exact OnlyAt.refl|with_reducible refine OnlyAt.drew ?_|with_reducible refine OnlyAt.setCell ?_ _ _|(with_reducible refine OnlyAt.setNew ?_ ?hB _ _;case hB=>(first|omega|(simp;done)|(simp;omega)))|with_reducible refine OnlyAt.alloc ?_ _|with_reducible refine OnlyAt.trans ?_ (OnlyAt.of_below (by assumption))|with_reducible refine OnlyAt.trans ?_ (by assumption))),HB.out.alloc _⟩
def meetS (m:Int) (v:Bool) (e f:El):(Bool × El) × Int:=if v=true then takeS v e (gfuseE e f).1 (gfuseE e f).2 else setS m v e f
def rangeS (m:Int) (v:Bool) (e n:El) (lo hi:Int):(Bool × El) × Int :=
 if v=true then takeS v e (updE e n lo hi).1 (updE e n lo hi).2 else if (acqE n hi).2=0 then setS m v e (acqE n hi).1 else ((v,e),(acqE n hi).2)
end Go.Proofs.YtechbdnhalmobaaGreatDoor
