/- The console: words; what a fleet's steps are to it. -/
import Derived.Test.YtechbdnhalmobaaGreatDoorA46
import Derived.Test.YtechbdnhalmobaaGreatDoorA33
import Derived.Test.YtechbdnhalmobaaGreatDoorA30
namespace Go.Proofs.YtechbdnhalmobaaGreatDoor
set_option linter.unusedSimpArgs false
set_option linter.unusedVariables false
set_option maxRecDepth 100000
set_option maxHeartbeats 16000000
open Go.RowKit Go.Maps
abbrev stepV (k n:Int):Value := .agg #[.int .i64 k,.int .i64 0,.int .i64 n,.int .i64 0,.int .i64 0,.int .i64 0,.int .i64 0,.int .i64 0,.int .i64 0,.int .i64 0,.int .i64 0,.int .i64 0,.int .i64 0,.int .u8 0,.slice none 0 0]
def ConO (w0:World) (c g tw ta:Nat) (gs:List Nat) (nv bv:Value) (nodes:Int) (F:FleetD) (wr:World):Prop :=
 ∃ owr,FleetIn owr wr g tw ta gs nv bv F∧Blk wr c #[ptr g,.int .i64 nodes] 105∧owr c=0∧Below w0.heap.size w0 wr∧∀ k,k<w0.heap.size→owr k=0
section
variable {ow:Nat→Nat} {w0 w wr:World} {c g tw ta:Nat} {gs:List Nat} {nv bv:Value} {nodes:Int} {F F':FleetD}
theorem ConO.fl (h:ConO w0 c g tw ta gs nv bv nodes F wr):∃ owr,FlO owr wr g tw ta gs nv bv F wr∧∀ F' w',FlO owr wr g tw ta gs nv bv F' w'→ConO w0 c g tw ta gs nv bv nodes F' w':=by
 obtain ⟨owr,h1,h2,h3,h4,h5⟩:=h
 refine ⟨owr,⟨owr,h1,FT.refl⟩,?_⟩
 rintro F' w' ⟨ow2,k1,k2⟩
 obtain ⟨j1,j2⟩:=k2.blk h2 (by rw [h3];exact rn_0)
 exact ⟨ow2,k1,j1,j2.trans h3,k2.below h4 (Nat.le_refl _) (fun k hk=>by rw [h5 k hk];exact rn_0),fun k hk=>(k2.e k (Nat.lt_of_lt_of_le hk h4.size)).trans (h5 k hk)⟩
theorem ConO.below (h:ConO w0 c g tw ta gs nv bv nodes F wr) {w1:World} (hb:Below wr.heap.size wr w1):ConO w0 c g tw ta gs nv bv nodes F w1:=by
 obtain ⟨owr,k1,k2⟩:=h.fl
 exact k2 _ _ (k1.below hb)
theorem ConO.cells (h:ConO w0 c g tw ta gs nv bv nodes F wr):wr.cell? ⟨c,0,none⟩=some (ptr g)∧wr.cell? ⟨c,1,none⟩=some (.int .i64 nodes)∧c<wr.heap.size:=by
 obtain ⟨owr,h1,h2,-⟩:=h
 exact ⟨h2.cell rfl,h2.cell rfl,h2.lt⟩
theorem ConO.bel (h:ConO w0 c g tw ta gs nv bv nodes F wr):Below w0.heap.size w0 wr:=by
 obtain ⟨owr,h1,h2,h3,h4,h5⟩:=h;exact h4
/- words -/
theorem wdone_c {q n C:Nat} {A:Option Addr} {bad:Bool} (B:Blk w q #[.slice A n C,.bool bad] 114) (hn:n=0) (hb:bad=false):Calls Tryz.prog 168 #[ptr q] w fun e w'=>e = .returned (.bool true)∧w'=w:=by
 subst hn;subst hb
 obtain ⟨y1,c1,f1,-⟩:=bk_o B
 clear B
 go_enter Tryz.func168,Tryz.ntmps168
 go_wp2
 go_ret
 exact ⟨rfl,rfl⟩
theorem wnext_c {q b o cap:Nat} {s:ByteArray} (B:Blk w q #[.slice (some ⟨b,o,none⟩) 1 cap,.bool false] 114) (hc:w.cell? ⟨b,o,none⟩=some (.string s)) (hcap:1≤cap) :
  Calls Tryz.prog 169 #[ptr q] w fun e w'=>e = .returned (.string s)∧∃ A C,OnlyAt q w w'∧Blk w' q #[.slice A 0 C,.bool false] 114:=by
 obtain ⟨y1,c1,f1,-⟩:=bk_o B
 have h1:(1:Int)≤(cap:Int):=by omega
 have HB:=Lib.hid B
 clear B
 go_enter Tryz.func169,Tryz.ntmps169
 go_wp2_with fail
 all_goals go_ret
 all_goals exact ⟨rfl,OnlyAt.refl.setCell 0 _,_,_,(HB.out.setCell_same 0 _).of_eq rfl⟩
theorem wnum_c {q b o cap:Nat} {s:ByteArray} (i:Nat) (hi:i<100) (hs:s=⟨(Lib.decDigits i).toArray⟩) (hp:Lib.parseIntB 64 s.data.toList = .ok (i:Int)) (hz:s.size≤1000000) (B:Blk w q #[.slice (some ⟨b,o,none⟩) 1 cap,.bool false] 114) (hc:w.cell? ⟨b,o,none⟩=some (.string s)) (hcap:1≤cap) :
  Calls Tryz.prog 167 #[ptr q] w fun e w'=>e = .returned (.int .i64 i)∧∃ A C,Turns (fun k=>k=q) w w'∧Blk w' q #[.slice A 0 C,.bool false] 114:=by
 have HN:Hid (Calls Tryz.prog 169 #[ptr q] w fun e w'=>e = .returned (.string s)∧∃ A C,OnlyAt q w w'∧Blk w' q #[.slice A 0 C,.bool false] 114):=wnext_c B hc hcap
 have HP:Hid (∀ w1,Calls Tryz.prog 223 #[.string s,.int .i64 10,.int .i64 64] w1 fun e w'=>e = .returned (.tuple #[.int .i64 i,.nilIface])∧Below w1.heap.size w1 w'):=fun w1=>parse_c s i w1 hz hp
 have HF:Hid (∀ w1,Calls Tryz.prog 98 #[.int .i64 i,.int .i64 10] w1 fun e w'=>e = .returned (.string s)∧w'=w1):=fun w1=>by rw [hs];exact form_c i hi w1
 clear hs hp B hc
 go_enter Tryz.func167,Tryz.ntmps167
 go_wp2_with fail
 refine HN.out.mono ?_;rintro e w1 ⟨rfl,A,C,hO,hB⟩
 have B1:=Lib.hid hB
 have O1:=Lib.hid hO
 clear hO hB
 go_wp2_with fail
 refine (HP.out _).mono ?_;rintro e w2 ⟨rfl,hb2⟩
 have B2:=Lib.hid (B1.out.keep hb2)
 have T2:Hid (Turns (fun k=>k=q) w w2):=(show Turns (fun k=>k=q) w w2 from ((Turns.refl (S:=fun k=>k=q)).then_only O1.out (.inl rfl)).then_below hb2)
 clear hb2
 obtain ⟨y1,c1,f1,-⟩:=bk_o B2.out
 go_wp2_with (go_at_call 98;refine (HF.out _).mono ?_;rintro e w3 ⟨rfl,h⟩;have h9:=h.symm;subst h9)
 go_ret
 refine ⟨rfl,?_⟩
 have T3:=T2.out.then_only (w'':=w2.setCell ⟨q,1,none⟩ (.bool false)) (OnlyAt.refl.setCell 1 _) (.inl rfl)
 have B3:Blk (w2.setCell ⟨q,1,none⟩ (.bool false)) q #[.slice A 0 C,.bool false] 114:=(B2.out.setCell_same 1 _).of_eq rfl
 first|exact ⟨_,_,T3,B3⟩|exact ⟨T3,_,_,B3⟩
end
def cfgA:Cfg:=⟨5,4,10,2,1,10,50,200,5,6,1000000000000⟩
def tickAllB (F:FleetD):Bool :=
 decide (F.w.time<750000)&&(List.range F.n.length).all (fun i=>match F.n[i]? with|some n=>! F.on.getD i false||tickB n ((F.w.tick.1.step.1).now i) ((F.w.tick.1.step.1).fine i F.w.tick.1.step.2)|none=>false)
def delB (F:FleetD) (i:Nat):Bool :=
 match F.a[i]? with
 | none=>false
 | some m=>decide (m.tru≤F.w.step.2)&&F.on.getD m.til false&&(match F.n[m.til]? with|some n=>hearB n m.data (F.w.step.1.now m.til)|none=>false)
def flushN:Nat→FleetD→FleetD
 | 0,F=>F
 | k+1,F=>flushN k (F.deliver 0).1
def flushB:Nat→FleetD→Bool
 | 0,_=>true
 | k+1,F=>delB F 0&&flushB k (F.deliver 0).1
def sureB (F:FleetD):Bool:=(List.range 5).all (fun i=>match F.n[i]?,F.w.p[i]? with|some n,some p=>nodB n&&(! n.fv||n.fe.has p.1 p.2)|_,_=>false)
def outsB (F:FleetD):Bool:=(List.range F.n.length).all (fun i=>match F.n[i]? with|some n=>decide ((n.tick ((F.w.tick.1.step.1).now i) ((F.w.tick.1.step.1).fine i F.w.tick.1.step.2)).2.length≤1000000)|none=>false)
def F0:FleetD := .new cfgA
def F1:FleetD:=F0.tick.1
def F2:FleetD:=F1.tick.1
def F3:FleetD:=flushN 20 F2
theorem run1:tickAllB F0=true:=by kernel_rfl
theorem run2:tickAllB F1=true:=by kernel_rfl
theorem run3:F2.a.length=20:=by kernel_rfl
theorem run4:flushB 20 F2=true:=by kernel_rfl
theorem run5:sureB F3=true:=by kernel_rfl
theorem run6:(F3.n[3]?).map (fun n=>nodB n && ! n.fv)=some true:=by kernel_rfl
abbrev cfgAV:Array Value:=#[.int .i64 5,.int .i64 4,.int .i64 10,.int .i64 2,.int .i64 1,.int .i64 10,.int .i64 50,.int .i64 200,.int .i64 5,.int .i64 6,.int .i64 1000000000000]
theorem cfgA_may:cfgA.may=true:=by kernel_rfl
theorem cfirst_c (w:World):Calls Tryz.prog 48 #[] w fun e w'=>e = .returned (.agg cfgAV)∧Below w.heap.size w w':=by
 go_enter Tryz.func48,Tryz.ntmps48
 go_wp2_with fail
 exact bodyPost_row 11 cfgAV rfl rfl rfl Tryz.underlying26 rfl (by kernel_rfl) (row_of_cells 10 _ rfl (by intro i hi;rcases i with _|_|_|_|_|_|_|_|_|_|_|i;(go_simp);(go_simp);(go_simp);(go_simp);(go_simp);(go_simp);(go_simp);(go_simp);(go_simp);(go_simp);(go_simp);exact absurd hi (by omega))) ⟨rfl,below_byR⟩
theorem conNew_c (w:World):Calls Tryz.prog 21 #[] w fun e w'=>∃ c,e = .returned (ptr c)∧∃ g tw ta gs nv bv,ConO w c g tw ta gs nv bv 5 F0 w':=by
 have HN:Hid (∀ w1,Calls Tryz.prog 23 #[.agg cfgAV] w1 fun e w'=>∃ g,e = .returned (.tuple #[ptr g,.int .i64 0])∧∃ tw ta gs nv bv owr,FleetIn owr w' g tw ta gs nv bv F0∧Below w1.heap.size w1 w'∧∀ j,j<w1.heap.size→owr j=0):=fun w1=>fleetNew_c cfgA cfgA_may w1
 go_enter Tryz.func21,Tryz.ntmps21
 go_wp2_with fail
 refine (cfirst_c _).mono ?_;rintro e w1 ⟨rfl,hb1⟩
 go_wp2_with fail
 refine (HN.out _).mono ?_;rintro e w2 ⟨g,rfl,tw,ta,gs,nv,bv,owr,hF,hb2,h0⟩;have z_w2:=hb2.size;(try simp at z_w2);obtain ⟨yw2aa,cw2aa,fw2aa,rw2aa,tw2aa,pw2aa⟩:=bq hb2 (w1.heap.size)
 have HF:=Lib.hid hF
 have H0:=Lib.hid h0
 clear hF h0
 go_wp2_with fail
 have z1:=hb1.size
 have z2:=hb2.size
 go_ret
 refine ⟨_,rfl,g,tw,ta,gs,nv,bv,ext owr w2.heap.size 0,HF.out.below ((Below.refl _ _).alloc (Nat.le_refl _) _) 0,Blk.new _ _ _,?_,below_byR,fun j hj=>?_⟩
 ·unfold ext;rw [if_neg (by omega)]
 ·have z1':=hb1.size
  exact (ext_lt (by omega)).trans (H0.out j (by simp;omega))
section
variable {ow:Nat→Nat} {w wr:World} {g tw ta:Nat} {gs:List Nat} {nv bv:Value} {F:FleetD} (H:FlO ow w g tw ta gs nv bv F wr)
include H
theorem flen_c:Calls Tryz.prog 43 #[ptr g] wr fun e w'=>e = .returned (.int .i64 F.a.length)∧w'=wr:=by
 obtain ⟨q0,q1,q13,q14,q15,f1,y1⟩:=H.cells
 have HL:Hid (Calls Tryz.prog 92 #[ptr ta] wr fun e w'=>e = .returned (.int .i64 F.a.length)∧w'=wr):=by
  obtain ⟨owr,h1,-⟩:=H
  exact airLen_c h1.a
 clear H
 go_enter Tryz.func43,Tryz.ntmps43
 go_wp2_with (go_at_call 92;refine HL.out.mono ?_;rintro e w2 ⟨rfl,h⟩;have h9:=h.symm;subst h9)
 go_ret
 exact ⟨rfl,rfl⟩
theorem fhas_c (i:Nat) (hi:i<F.n.length):Calls Tryz.prog 24 #[ptr g,.int .i64 i] wr fun e w'=>e = .returned (.bool true)∧w'=wr:=by
 obtain ⟨q0,q1,q13,q14,q15,f1,y1⟩:=H.cells
 obtain ⟨owr,h1,-⟩:=id H
 have hl:=h1.ln
 obtain ⟨an,cn,rfl⟩:=row_form h1.rn
 have k1:(i:Int)<(gs.length:Int):=by omega
 have k2:¬ (i:Int)<0:=by omega
 have k3:(0:Int)≤(i:Int):=by omega
 clear H h1 hl hi
 go_enter Tryz.func24,Tryz.ntmps24
 go_wp2
 go_ret
 exact ⟨by first|rfl|(simp [k1];done),rfl⟩
theorem fnode_c (i:Nat) (hi:i<F.n.length):Calls Tryz.prog 10 #[ptr g,.int .i64 i] wr fun e w'=>e = .returned (ptr (gs.getD i 0))∧w'=wr:=by
 obtain ⟨q0,q1,q13,q14,q15,f1,y1⟩:=H.cells
 have HH:Hid (Calls Tryz.prog 24 #[ptr g,.int .i64 i] wr fun e w'=>e = .returned (.bool true)∧w'=wr):=fhas_c H i hi
 obtain ⟨owr,h1,-⟩:=id H
 have hl:=h1.ln
 obtain ⟨nb,cn,rfl,nbl,cnb⟩:=H.node hi
 obtain ⟨gk,hgk⟩:∃ z,gs.getD i 0=z:=⟨_,rfl⟩
 rw [hgk] at cnb ⊢
 have k1:(i:Int)<(gs.length:Int):=by omega
 have k3:(0:Int)≤(i:Int):=by omega
 clear H h1 hl hi hgk
 go_enter Tryz.func10,Tryz.ntmps10
 go_wp2_with (go_at_call 24;refine HH.out.mono ?_;rintro e w2 ⟨rfl,h⟩;have h9:=h.symm;subst h9)
 go_ret
 exact ⟨rfl,rfl⟩
theorem fon_c (OK:FleetOK F) (i:Nat) (hi:i<F.n.length) (b:Bool) (hb:F.on[i]? = some b):Calls Tryz.prog 44 #[ptr g,.int .i64 i] wr fun e w'=>e = .returned (.bool b)∧w'=wr:=by
 obtain ⟨q0,q1,q13,q14,q15,f1,y1⟩:=H.cells
 have HH:Hid (Calls Tryz.prog 24 #[ptr g,.int .i64 i] wr fun e w'=>e = .returned (.bool true)∧w'=wr):=fhas_c H i hi
 obtain ⟨ob,co,rfl,obl,cob⟩:=H.on hb
 have hlo:=OK.lo
 have k1:(i:Int)<(F.on.length:Int):=by omega
 have k3:(0:Int)≤(i:Int):=by omega
 clear H OK hlo hi hb
 go_enter Tryz.func44,Tryz.ntmps44
 go_wp2_with (go_at_call 24;refine HH.out.mono ?_;rintro e w2 ⟨rfl,h⟩;have h9:=h.symm;subst h9)
 go_ret
 exact ⟨rfl,rfl⟩
theorem fplace_c (i:Nat) (x y:Int) (hi:F.w.p[i]? = some (x,y)):Calls Tryz.prog 45 #[ptr g,.int .i64 i] wr fun e w'=>e = .returned (.tuple #[.agg #[.int .i64 x,.int .i64 y],.bool true])∧Below wr.heap.size wr w':=by
 obtain ⟨q0,q1,q13,q14,q15,f1,y1⟩:=H.cells
 have HP:Hid (∀ w1,Below wr.heap.size wr w1→Calls Tryz.prog 55 #[ptr tw,.int .i64 i] w1 fun e w'=>e = .returned (.tuple #[.agg #[.int .i64 x,.int .i64 y],.bool true])∧Below w1.heap.size w1 w'):=fun w1 hb=>by
  obtain ⟨S,pv,mv,h2⟩:=(H.below hb).tru
  exact tPlace_c h2 i x y hi
 clear H hi
 go_enter Tryz.func45,Tryz.ntmps45
 go_wp2_with fail
 refine (HP.out _ below_byR).mono ?_;rintro e w1 ⟨rfl,hb1⟩;have z_w1:=hb1.size;(try simp at z_w1);obtain ⟨yw1aa,cw1aa,fw1aa,rw1aa,tw1aa,pw1aa⟩:=bq hb1 (wr.heap.size)
 go_wp2_with fail
 exact bodyPost_row_t 2 #[.int .i64 x,.int .i64 y] (.bool true) rfl rfl rfl rfl Tryz.underlying31 rfl (by kernel_rfl) (rc2 (by go_simp) (by go_simp)) ⟨rfl,below_byR⟩
theorem frep_c (i:Nat) (n:NodeD) (hn:F.n[i]? = some n) (OK:TabOK n.t):Calls Tryz.prog 11 #[ptr (gs.getD i 0)] wr fun e w'=>∃ A c,e = .returned (repV n (.slice A n.t.ents.length c))∧Below wr.heap.size wr w':=by
 obtain ⟨owr,h1,-⟩:=H
 obtain ⟨L,h2⟩:=h1.n i n hn
 exact nrep_c h2 OK
end
section
variable {w:World} {g:Nat} {P:World→Prop}
theorem do_tick (HT:∀ w1,Below w.heap.size w w1→Calls Tryz.prog 30 #[ptr g] w1 fun e w'=>e = .returned (.int .i64 0)∧P w') :
  Calls Tryz.prog 12 #[ptr g,stepV 2 0] w fun e w'=>e = .returned (.int .i64 0)∧P w':=by
 have HH:Hid (∀ w1,Below w.heap.size w w1→Calls Tryz.prog 30 #[ptr g] w1 fun e w'=>e = .returned (.int .i64 0)∧Hid (P w')):=HT
 clear HT
 go_enter Tryz.func12,Tryz.ntmps12
 go_wp2_with fail
 refine (HH.out _ below_byR).mono ?_;rintro e w1 ⟨rfl,hp⟩
 go_wp2_with fail
 go_ret
 exact ⟨rfl,hp.out⟩
theorem do_del (i:Nat) (HT:∀ w1,Below w.heap.size w w1→Calls Tryz.prog 31 #[ptr g,.int .i64 i] w1 fun e w'=>e = .returned (.int .i64 0)∧P w') :
  Calls Tryz.prog 12 #[ptr g,stepV 3 i] w fun e w'=>e = .returned (.int .i64 0)∧P w':=by
 have HH:Hid (∀ w1,Below w.heap.size w w1→Calls Tryz.prog 31 #[ptr g,.int .i64 i] w1 fun e w'=>e = .returned (.int .i64 0)∧Hid (P w')):=HT
 clear HT
 go_enter Tryz.func12,Tryz.ntmps12
 go_wp2_with fail
 refine (HH.out _ below_byR).mono ?_;rintro e w1 ⟨rfl,hp⟩
 go_wp2_with fail
 go_ret
 exact ⟨rfl,hp.out⟩
end
section
variable {w0 W w:World} {c g tw ta:Nat} {gs:List Nat} {nv bv:Value} {nodes:Int}
theorem cticks_c (n:Nat) (hn:n<100) (Fs:Nat→FleetD) (HC:ConO w0 c g tw ta gs nv bv nodes (Fs 0) W) (hb:Below W.heap.size W w) {q b o cap:Nat} (hq:W.heap.size≤q) (s:ByteArray) (hs:s=⟨(Lib.decDigits n).toArray⟩) (hp:Lib.parseIntB 64 s.data.toList = .ok (n:Int)) (hz:s.size≤1000000)
  (B:Blk w q #[.slice (some ⟨b,o,none⟩) 1 cap,.bool false] 114) (hc:w.cell? ⟨b,o,none⟩=some (.string s)) (hcap:1≤cap)
  (HS:∀ j,j<n→∀ w1,ConO w0 c g tw ta gs nv bv nodes (Fs j) w1→Calls Tryz.prog 12 #[ptr g,stepV 2 0] w1 fun e w'=>e = .returned (.int .i64 0)∧ConO w0 c g tw ta gs nv bv nodes (Fs (j+1)) w') :
  Calls Tryz.prog 101 #[ptr c,ptr q] w fun e w'=>e = .returned (.string ⟨#[111,107]⟩)∧ConO w0 c g tw ta gs nv bv nodes (Fs n) w':=by
 have HN:Hid (Calls Tryz.prog 167 #[ptr q] w fun e w'=>e = .returned (.int .i64 n)∧∃ A C,Turns (fun k=>k=q) w w'∧Blk w' q #[.slice A 0 C,.bool false] 114):=wnum_c n hn hs hp hz B hc hcap
 have HSS:Hid (∀ j,j<n→∀ w1,ConO w0 c g tw ta gs nv bv nodes (Fs j) w1→Calls Tryz.prog 12 #[ptr g,stepV 2 0] w1 fun e w'=>e = .returned (.int .i64 0)∧Hid (ConO w0 c g tw ta gs nv bv nodes (Fs (j+1)) w')):=HS
 have HCC:=Lib.hid HC
 have HB:=Lib.hid hb
 obtain ⟨y1,c1,f1,-⟩:=bk_o B
 have n1:¬ ((n:Int)<0):=by omega
 have n2:¬ ((1000:Int)<(n:Int)):=by omega
 clear HC hb hs hp B hc HS
 go_enter Tryz.func101,Tryz.ntmps101
 go_wp2_with fail
 refine HN.out.mono ?_;rintro e w1 ⟨rfl,A,C,hT,hB⟩
 have HB1:Hid (Below W.heap.size W w1):=hT.below HB.out (Nat.le_refl _) (fun k e=>by have e:k=q:=e;omega)
 have B1:=Lib.hid hB
 clear hT hB y1 c1 f1
 have HDN:Hid (Calls Tryz.prog 168 #[ptr q] w1 fun e w'=>e = .returned (.bool true)∧w'=w1):=wdone_c B1.out rfl rfl
 go_wp2_with (go_at_call 168;refine HDN.out.mono ?_;rintro e w2 ⟨rfl,h⟩;have h9:=h.symm;subst h9)
 go_loopw [28] (fun t28 wr=>∃ j:Nat,j≤n∧t28 = .int .i64 j∧Hid (ConO w0 c g tw ta gs nv bv nodes (Fs j) wr)) (fun t28 _=>n-(intOf t28).toNat)
 case atStart=>exact ⟨0,by omega,rfl,HCC.out.below HB1.out⟩
 case round =>
  obtain ⟨j,hj,rfl,HJ⟩:=hrel
  obtain ⟨q0,q1,y1⟩:=HJ.out.cells
  by_cases hjl:j<n
  ·have j1:(j:Int)<(n:Int):=by omega
   go_wp2_with fail
   refine (HSS.out j hjl _ HJ.out).mono ?_;rintro e w2 ⟨rfl,HJ2⟩
   go_wp2_with fail
   go_roundw
   case rel=>exact ⟨j+1,by omega,by go_num,HJ2⟩
   case measure=>exact (by first|(simp [intOf];done)|(simp [intOf];omega))
  ·have hjn:j=n:=by omega
   subst hjn
   have j1:¬ ((j:Int)<(j:Int)):=by omega
   go_wp2_with fail
   go_ret
   exact ⟨rfl,HJ.out⟩
theorem cflush_c (n:Nat) (hn:n<100) (hz:(⟨(Lib.decDigits n).toArray⟩:ByteArray).size≤1000) (Fs:Nat→FleetD) (HC:ConO w0 c g tw ta gs nv bv nodes (Fs 0) W) (hb:Below W.heap.size W w) (hl:(Fs 0).a.length=n) {q C:Nat} {A:Option Addr} (B:Blk w q #[.slice A 0 C,.bool false] 114)
  (HS:∀ j,j<n→∀ w1,ConO w0 c g tw ta gs nv bv nodes (Fs j) w1→Calls Tryz.prog 12 #[ptr g,stepV 3 0] w1 fun e w'=>e = .returned (.int .i64 0)∧ConO w0 c g tw ta gs nv bv nodes (Fs (j+1)) w') :
  Calls Tryz.prog 106 #[ptr c,ptr q] w fun e w'=>e = .returned (.string (⟨#[111,107,32]⟩++⟨(Lib.decDigits n).toArray⟩))∧ConO w0 c g tw ta gs nv bv nodes (Fs n) w':=by
 have HSS:Hid (∀ j,j<n→∀ w1,ConO w0 c g tw ta gs nv bv nodes (Fs j) w1→Calls Tryz.prog 12 #[ptr g,stepV 3 0] w1 fun e w'=>e = .returned (.int .i64 0)∧Hid (ConO w0 c g tw ta gs nv bv nodes (Fs (j+1)) w')):=HS
 have HCC:Hid (ConO w0 c g tw ta gs nv bv nodes (Fs 0) w):=HC.below hb
 have HDN:Hid (Calls Tryz.prog 168 #[ptr q] w fun e w'=>e = .returned (.bool true)∧w'=w):=wdone_c B rfl rfl
 have HLN:Hid (Calls Tryz.prog 43 #[ptr g] w fun e w'=>e = .returned (.int .i64 n)∧w'=w):=by
  obtain ⟨owr,h1,-⟩:=HCC.out.fl
  have:=flen_c h1
  rw [hl] at this;exact this
 have HIT:Hid (∀ w1,Calls Tryz.prog 95 #[.int .i64 n] w1 fun e w'=>e = .returned (.string ⟨(Lib.decDigits n).toArray⟩)∧w'=w1):=fun w1=>itoa_c n hn w1
 obtain ⟨ds,hds⟩:∃ ds:ByteArray,(⟨(Lib.decDigits n).toArray⟩:ByteArray)=ds:=⟨_,rfl⟩
 rw [hds] at HIT hz ⊢
 have hz2:¬ 9223372036854775807<3+ds.size:=by omega
 obtain ⟨q0,q1,y1⟩:=HCC.out.cells
 clear HC hb hl B HS hds
 go_enter Tryz.func106,Tryz.ntmps106
 go_wp2_with (first
  | (go_at_call 168;refine HDN.out.mono ?_;rintro e w2 ⟨rfl,h⟩;have h9:=h.symm;subst h9)
  | (go_at_call 43;refine HLN.out.mono ?_;rintro e w2 ⟨rfl,h⟩;have h9:=h.symm;subst h9))
 clear q0 q1 y1
 go_loopw [5,6,16] (fun t5 t6 t16 wr=>∃ j:Nat,j≤n∧t5 = .int .i64 j∧t6 = .int .i64 0∧t16 = .int .i64 j∧Hid (ConO w0 c g tw ta gs nv bv nodes (Fs j) wr)) (fun _ _ t16 _=>n-(intOf t16).toNat)
 case atStart=>exact ⟨0,by omega,rfl,rfl,rfl,HCC⟩
 case round =>
  obtain ⟨j,hj,rfl,rfl,rfl,HJ⟩:=hrel
  obtain ⟨q0,q1,y1⟩:=HJ.out.cells
  by_cases hjl:j<n
  ·have j1:(j:Int)<(n:Int):=by omega
   go_wp2_with fail
   refine (HSS.out j hjl _ HJ.out).mono ?_;rintro e w2 ⟨rfl,HJ2⟩
   go_wp2_with fail
   go_roundw
   case rel=>exact ⟨j+1,by omega,by go_num,rfl,by go_num,HJ2⟩
   case measure=>exact (by first|(simp [intOf];done)|(simp [intOf];omega))
  ·have hjn:j=n:=by omega
   subst hjn
   have j1:¬ ((j:Int)<(j:Int)):=by omega
   go_wp2_with (go_at_call 95;refine (HIT.out _).mono ?_;rintro e w2 ⟨rfl,h⟩;have h9:=h.symm;subst h9)
   all_goals go_ret
   all_goals exact ⟨rfl,HJ.out⟩
end
section
variable {w0 W w wr:World} {c g tw ta:Nat} {gs:List Nat} {nv bv:Value} {nodes:Int} {F:FleetD}
theorem cwhere_c (H:ConO w0 c g tw ta gs nv bv nodes F wr) (i:Nat) (n:NodeD) (hn:F.n[i]? = some n) (hv:n.fv=false) (OK:TabOK n.t) :
  Calls Tryz.prog 111 #[ptr c,.int .i64 i] wr fun e w'=>e = .returned (.string ⟨#[108,111,115,116]⟩)∧Below wr.heap.size wr w':=by
 obtain ⟨owr,h1,-⟩:=H.fl
 obtain ⟨gk,hgk⟩:∃ z,gs.getD i 0=z:=⟨_,rfl⟩
 have HN:Hid (Calls Tryz.prog 10 #[ptr g,.int .i64 i] wr fun e w'=>e = .returned (ptr gk)∧w'=wr):=by
  have:=fnode_c h1 i (List.getElem?_eq_some_iff.1 hn).1
  rw [hgk] at this;exact this
 have HR:Hid (Calls Tryz.prog 11 #[ptr gk] wr fun e w'=>∃ A c,e = .returned (repV n (.slice A n.t.ents.length c))∧Below wr.heap.size wr w'):=by
  rw [← hgk];exact frep_c h1 i n hn OK
 obtain ⟨q0,q1,y1⟩:=H.cells
 have HV:=Lib.hid hv
 clear H h1 hn OK hgk hv
 go_enter Tryz.func111,Tryz.ntmps111
 go_wp2_with fail
 refine HN.out.mono ?_;rintro e w1 ⟨rfl,h⟩;have h9:=h.symm;subst h9
 go_wp2_with fail
 refine HR.out.mono ?_;rintro e w2 ⟨A,cap,rfl,hb2⟩
 have hv2:=HV.out
 have hz2:=hb2.size
 go_wp2_with fail
 go_ret
 exact ⟨rfl,below_byR⟩
theorem cof_c (HC:ConO w0 c g tw ta gs nv bv nodes F W) (hb:Below W.heap.size W w) {q b o cap:Nat} (hq:W.heap.size≤q) (i:Nat) (n:NodeD) (hn:F.n[i]? = some n) (hv:n.fv=false) (OK:TabOK n.t) (hi:i<100) (s:ByteArray) (hs:s=⟨(Lib.decDigits i).toArray⟩) (hp:Lib.parseIntB 64 s.data.toList = .ok (i:Int)) (hz:s.size≤1000000)
  (B:Blk w q #[.slice (some ⟨b,o,none⟩) 1 cap,.bool false] 114) (hc:w.cell? ⟨b,o,none⟩=some (.string s)) (hcap:1≤cap) :
  Calls Tryz.prog 110 #[ptr c,ptr q,.func (.func 111) #[ptr c] #[]] w fun e w'=>e = .returned (.string ⟨#[108,111,115,116]⟩)∧ConO w0 c g tw ta gs nv bv nodes F w':=by
 have HW:Hid (∀ w1,Below W.heap.size W w1→Calls Tryz.prog 111 #[ptr c,.int .i64 i] w1 fun e w'=>e = .returned (.string ⟨#[108,111,115,116]⟩)∧Hid (ConO w0 c g tw ta gs nv bv nodes F w')):=fun w1 h1=>(cwhere_c (HC.below h1) i n hn hv OK).mono (by rintro e w' ⟨rfl,h2⟩;exact ⟨rfl,(HC.below h1).below h2⟩)
 have HNM:Hid (Calls Tryz.prog 167 #[ptr q] w fun e w'=>e = .returned (.int .i64 i)∧∃ A C,Turns (fun k=>k=q) w w'∧Blk w' q #[.slice A 0 C,.bool false] 114):=wnum_c i hi hs hp hz B hc hcap
 obtain ⟨gk,hgk⟩:∃ z,gs.getD i 0=z:=⟨_,rfl⟩
 have HND:Hid (∀ w1,Below W.heap.size W w1→Calls Tryz.prog 10 #[ptr g,.int .i64 i] w1 fun e w'=>e = .returned (ptr gk)∧w'=w1):=fun w1 h1=>by
  obtain ⟨owr,h2,-⟩:=(HC.below h1).fl
  have:=fnode_c h2 i (List.getElem?_eq_some_iff.1 hn).1
  rw [hgk] at this;exact this
 have HCC:=Lib.hid HC
 have HB:=Lib.hid hb
 clear HC hb hn hv OK hs hp B hc hgk
 go_enter Tryz.func110,Tryz.ntmps110
 go_wp2_with fail
 have HCT:Hid (Calls Tryz.prog 103 #[ptr q] w fun e w'=>e = .returned (.int .i64 i)∧∃ A C,Turns (fun k=>k=q) w w'∧Blk w' q #[.slice A 0 C,.bool false] 114):=by
  show Calls _ _ _ _ _
  go_enter Tryz.func103,Tryz.ntmps103
  go_wp2_with fail
  refine HNM.out.mono ?_;rintro e w1 ⟨rfl,A,C,hT,hB⟩
  go_wp2_with fail
  go_ret
  exact ⟨rfl,A,C,hT,hB⟩
 refine HCT.out.mono ?_;rintro e w1 ⟨rfl,A,C,hT,hB⟩
 have HB1:Hid (Below W.heap.size W w1):=hT.below HB.out (Nat.le_refl _) (fun k e=>by have e:k=q:=e;omega)
 have HDN:Hid (Calls Tryz.prog 168 #[ptr q] w1 fun e w'=>e = .returned (.bool true)∧w'=w1):=wdone_c hB rfl rfl
 obtain ⟨q0,q1,y1⟩:=(HCC.out.below HB1.out).cells
 clear hT hB
 go_wp2_with fail
 refine HDN.out.mono ?_;rintro e w2 ⟨rfl,h⟩;have h9:=h.symm;subst h9
 go_wp2_with fail
 refine (HND.out _ HB1.out).mono ?_;rintro e w2 ⟨rfl,h⟩;have h9:=h.symm;subst h9
 go_wp2_with fail
 refine (HW.out _ HB1.out).mono ?_;rintro e w3 ⟨rfl,hf⟩
 go_wp2_with fail
 go_ret
 exact ⟨rfl,hf.out⟩
end
section
variable {w0 W w wr:World} {c g tw ta:Nat} {gs:List Nat} {nv bv:Value} {F:FleetD}
theorem csure_c (N:Nat) (hN:N≤64) (H:ConO w0 c g tw ta gs nv bv (N:Int) F w) (OK:FleetOK F) (hS:∀ i,i<N→∃ n x y,F.n[i]? = some n∧F.w.p[i]? = some (x,y)∧TabOK n.t∧F.on[i]? = some true∧(n.fv=true→n.fe.has x y=true)) :
  Calls Tryz.prog 97 #[ptr c] w fun e w'=>e = .returned (.string ⟨#[121,101,115]⟩)∧ConO w0 c g tw ta gs nv bv (N:Int) F w':=by
 have HH:=Lib.hid H
 have HO:=Lib.hid OK
 have HS:=Lib.hid hS
 obtain ⟨q0,q1,y1⟩:=H.cells
 clear H OK hS
 go_enter Tryz.func97,Tryz.ntmps97
 go_wp2_with fail
 clear q0 q1 y1
 go_loopw [11] (fun t11 wr=>∃ k:Nat,k≤N∧t11 = .int .i64 k∧Hid (ConO w0 c g tw ta gs nv bv (N:Int) F wr)) (fun t11 _=>N-(intOf t11).toNat)
 case atStart=>exact ⟨0,by omega,rfl,HH⟩
 case round =>
  obtain ⟨k,hk,rfl,HK⟩:=hrel
  by_cases hlt:k<N
  ·have k1:(k:Int)<(N:Int):=by omega
   obtain ⟨n,x,y,hn,hp,hT,hon,hv⟩:=HS.out k hlt
   obtain ⟨gk,hgk⟩:∃ z,gs.getD k 0=z:=⟨_,rfl⟩
   have hkn:=(List.getElem?_eq_some_iff.1 hn).1
   have HP:Hid (∀ w1,Below wr.heap.size wr w1→Calls Tryz.prog 45 #[ptr g,.int .i64 k] w1 fun e w'=>e = .returned (.tuple #[.agg #[.int .i64 x,.int .i64 y],.bool true])∧Below w1.heap.size w1 w'):=fun w1 h1=>by
    obtain ⟨owr,h2,-⟩:=(HK.out.below h1).fl
    exact fplace_c h2 k x y hp
   have HN:Hid (∀ w1,Below wr.heap.size wr w1→Calls Tryz.prog 10 #[ptr g,.int .i64 k] w1 fun e w'=>e = .returned (ptr gk)∧w'=w1):=fun w1 h1=>by
    obtain ⟨owr,h2,-⟩:=(HK.out.below h1).fl
    have:=fnode_c h2 k hkn
    rw [hgk] at this;exact this
   have HR:Hid (∀ w1,Below wr.heap.size wr w1→Calls Tryz.prog 11 #[ptr gk] w1 fun e w'=>∃ A c,e = .returned (repV n (.slice A n.t.ents.length c))∧Below w1.heap.size w1 w'):=fun w1 h1=>by
    obtain ⟨owr,h2,-⟩:=(HK.out.below h1).fl
    rw [← hgk];exact frep_c h2 k n hn hT
   have HON:Hid (∀ w1,Below wr.heap.size wr w1→Calls Tryz.prog 44 #[ptr g,.int .i64 k] w1 fun e w'=>e = .returned (.bool true)∧w'=w1):=fun w1 h1=>by
    obtain ⟨owr,h2,-⟩:=(HK.out.below h1).fl
    exact fon_c h2 HO.out k hkn true hon
   obtain ⟨fv,hfv⟩:∃ z,n.fv=z:=⟨_,rfl⟩
   obtain ⟨⟨fx,fy,fa,fb,fd⟩,hfe⟩:∃ z,n.fe=z:=⟨_,rfl⟩
   obtain ⟨tl,htl⟩:∃ z,n.t.ents.length=z:=⟨_,rfl⟩
   have HR2:Hid (∀ w1,Below wr.heap.size wr w1→Calls Tryz.prog 11 #[ptr gk] w1 fun e w'=>∃ A c,e = .returned (.agg #[.bool fv,.int .i64 fx,.int .i64 fy,.int .i64 fa,.int .i64 fb,.int .i64 fd,.slice A tl c])∧Below w1.heap.size w1 w'):=fun w1 h1=>by
    have:=HR.out w1 h1
    unfold repV at this
    rw [hfv,hfe,htl] at this;exact this
   rw [hfv,hfe] at hv
   have HIN:Hid (fv=true→∀ w1,Calls Tryz.prog 15 #[elC fx fy fa fb fd,ptV x y] w1 fun e w'=>e = .returned (.bool true)∧Below w1.heap.size w1 w'):=fun h w1=>ellin_v _ _ _ _ _ _ _ _ (hv h) w1
   obtain ⟨q0,q1,y1⟩:=HK.out.cells
   clear hn hp hT hon hv hgk hkn hfv hfe htl HR
   cases fv with
   | false =>
    go_wp2_with (first
     | (go_at_call 45;refine (HP.out _ below_byR).mono ?_;rintro e w1 ⟨rfl,hb1⟩;have z_w1:=hb1.size;(try simp at z_w1);obtain ⟨y_w1_c,c_w1_c,f_w1_c,r_w1_c,t_w1_c,p_w1_c⟩:=bq hb1 (c))
     | (go_at_call 10;refine (HN.out _ below_byR).mono ?_;rintro e w2 ⟨rfl,h⟩;have h9:=h.symm;subst h9)
     | (go_at_call 11;refine (HR2.out _ below_byR).mono ?_;rintro e w3 ⟨A,cp,rfl,hb3⟩;have z_w3:=hb3.size;(try simp at z_w3);obtain ⟨y_w3_c,c_w3_c,f_w3_c,r_w3_c,t_w3_c,p_w3_c⟩:=bq hb3 (c);obtain ⟨yw3ba,cw3ba,fw3ba,rw3ba,tw3ba,pw3ba⟩:=bq hb3 (w1.heap.size))
     | (go_at_call 44;refine (HON.out _ below_byR).mono ?_;rintro e w4 ⟨rfl,h⟩;have h9:=h.symm;subst h9))
    go_roundw
    case rel=>exact ⟨k+1,by omega,by go_num,HK.out.below below_byR⟩
    case measure=>exact (by first|(simp [intOf];done)|(simp [intOf];omega))
   | true =>
    have HI2:Hid (∀ w1,Calls Tryz.prog 15 #[elC fx fy fa fb fd,ptV x y] w1 fun e w'=>e = .returned (.bool true)∧Below w1.heap.size w1 w'):=HIN.out rfl
    clear HIN
    go_wp2_with (first
     | (go_at_call 45;refine (HP.out _ below_byR).mono ?_;rintro e w1 ⟨rfl,hb1⟩;have z_w1:=hb1.size;(try simp at z_w1);obtain ⟨y_w1_c,c_w1_c,f_w1_c,r_w1_c,t_w1_c,p_w1_c⟩:=bq hb1 (c))
     | (go_at_call 10;refine (HN.out _ below_byR).mono ?_;rintro e w2 ⟨rfl,h⟩;have h9:=h.symm;subst h9)
     | (go_at_call 11;refine (HR2.out _ below_byR).mono ?_;rintro e w3 ⟨A,cp,rfl,hb3⟩;have z_w3:=hb3.size;(try simp at z_w3);obtain ⟨y_w3_c,c_w3_c,f_w3_c,r_w3_c,t_w3_c,p_w3_c⟩:=bq hb3 (c);obtain ⟨yw3ba,cw3ba,fw3ba,rw3ba,tw3ba,pw3ba⟩:=bq hb3 (w1.heap.size))
     | (go_at_call 44;refine (HON.out _ below_byR).mono ?_;rintro e w4 ⟨rfl,h⟩;have h9:=h.symm;subst h9)
     | (go_at_call 15;refine (HI2.out _).mono ?_;rintro e w5 ⟨rfl,hb5⟩;have z_w5:=hb5.size;(try simp at z_w5);obtain ⟨y_w5_c,c_w5_c,f_w5_c,r_w5_c,t_w5_c,p_w5_c⟩:=bq hb5 (c)))
    go_roundw
    case rel=>exact ⟨k+1,by omega,by go_num,HK.out.below below_byR⟩
    case measure=>exact (by first|(simp [intOf];done)|(simp [intOf];omega))
  ·have hkN:k=N:=by omega
   subst hkN
   have k1:¬ ((k:Int)<(k:Int)):=by omega
   go_wp2_with fail
   go_ret
   exact ⟨rfl,HK.out⟩
end
abbrev sTick:ByteArray:={ data:=#[116,105,99,107] }
abbrev sFlush:ByteArray:={ data:=#[102,108,117,115,104] }
abbrev sWhere:ByteArray:={ data:=#[119,104,101,114,101] }
abbrev sSure:ByteArray:={ data:=#[115,117,114,101] }
section
variable {w:World} {c q:Nat} {r:ByteArray} {P:World→Prop}
theorem asked_sure (H:Calls Tryz.prog 97 #[ptr c] w fun e w'=>e = .returned (.string r)∧P w') :
  Calls Tryz.prog 51 #[ptr c,.string sSure] w fun e w'=>e = .returned (.tuple #[.string r,.bool true])∧P w':=by
 have HH:Hid (Calls Tryz.prog 97 #[ptr c] w fun e w'=>e = .returned (.string r)∧Hid (P w')):=H
 clear H
 go_enter Tryz.func51,Tryz.ntmps51
 go_wp2_with fail
 refine HH.out.mono ?_;rintro e w1 ⟨rfl,hp⟩
 go_wp2_with fail
 go_ret2
 exact ⟨rfl,hp.out⟩
theorem asked_tick:Calls Tryz.prog 51 #[ptr c,.string sTick] w fun e w'=>e = .returned (.tuple #[.string ⟨#[]⟩,.bool false])∧w'=w:=by
 go_enter Tryz.func51,Tryz.ntmps51
 go_wp2_with fail
 go_ret2
 exact ⟨rfl,rfl⟩
theorem asked_flush:Calls Tryz.prog 51 #[ptr c,.string sFlush] w fun e w'=>e = .returned (.tuple #[.string ⟨#[]⟩,.bool false])∧w'=w:=by
 go_enter Tryz.func51,Tryz.ntmps51
 go_wp2_with fail
 go_ret2
 exact ⟨rfl,rfl⟩
theorem asked_where:Calls Tryz.prog 51 #[ptr c,.string sWhere] w fun e w'=>e = .returned (.tuple #[.string ⟨#[]⟩,.bool false])∧w'=w:=by
 go_enter Tryz.func51,Tryz.ntmps51
 go_wp2_with fail
 go_ret2
 exact ⟨rfl,rfl⟩
theorem run_tick (H:Calls Tryz.prog 101 #[ptr c,ptr q] w fun e w'=>e = .returned (.string r)∧P w') :
  Calls Tryz.prog 52 #[ptr c,.string sTick,ptr q] w fun e w'=>e = .returned (.string r)∧P w':=by
 have HH:Hid (Calls Tryz.prog 101 #[ptr c,ptr q] w fun e w'=>e = .returned (.string r)∧Hid (P w')):=H
 clear H
 go_enter Tryz.func52,Tryz.ntmps52
 go_wp2_with fail
 refine HH.out.mono ?_;rintro e w1 ⟨rfl,hp⟩
 go_wp2_with fail
 go_ret
 exact ⟨rfl,hp.out⟩
theorem run_flush (H:Calls Tryz.prog 106 #[ptr c,ptr q] w fun e w'=>e = .returned (.string r)∧P w') :
  Calls Tryz.prog 52 #[ptr c,.string sFlush,ptr q] w fun e w'=>e = .returned (.string r)∧P w':=by
 have HH:Hid (Calls Tryz.prog 106 #[ptr c,ptr q] w fun e w'=>e = .returned (.string r)∧Hid (P w')):=H
 clear H
 go_enter Tryz.func52,Tryz.ntmps52
 go_wp2_with fail
 refine HH.out.mono ?_;rintro e w1 ⟨rfl,hp⟩
 go_wp2_with fail
 go_ret
 exact ⟨rfl,hp.out⟩
theorem run_where (H:Calls Tryz.prog 110 #[ptr c,ptr q,.func (.func 111) #[ptr c] #[]] w fun e w'=>e = .returned (.string r)∧P w') :
  Calls Tryz.prog 52 #[ptr c,.string sWhere,ptr q] w fun e w'=>e = .returned (.string r)∧P w':=by
 have HH:Hid (Calls Tryz.prog 110 #[ptr c,ptr q,.func (.func 111) #[ptr c] #[]] w fun e w'=>e = .returned (.string r)∧Hid (P w')):=H
 clear H
 go_enter Tryz.func52,Tryz.ntmps52
 go_wp2_with fail
 refine HH.out.mono ?_;rintro e w1 ⟨rfl,hp⟩
 go_wp2_with fail
 go_ret
 exact ⟨rfl,hp.out⟩
end
theorem infoStr:(Tryz.prog.info? 9).map (fun i=>(i.zero,i.size,i.bytes))=some (some (.string ByteArray.empty),1,16):=by kernel_rfl
theorem str_one (s:ByteArray):∀ u ∈ [Value.string s],u.oneCell'=true:=by intro u hu;simp at hu;subst hu;rfl
section
variable {w:World} {c:Nat} {r:ByteArray} {P:World→Prop}
theorem line_run (s w1s:ByteArray) (ws:List ByteArray) (hsp:Lib.splitB blank 0 (Lib.countB s blank) s=w1s :: ws) (hn:Lib.countB s blank=ws.length) (hne:∀ x ∈ w1s :: ws,x.toList.isEmpty=false) (hl:ws.length≤100) (hs:s.size≤2500) (m:Int) (hm:w.cell? ⟨0,0,none⟩=some (.int .i64 m))
  (HA:∀ wa,Below w.heap.size w wa→Calls Tryz.prog 51 #[ptr c,.string w1s] wa fun e w'=>e = .returned (.tuple #[.string ⟨#[]⟩,.bool false])∧w'=wa)
  (HR:∀ wa q b C,Below w.heap.size w wa→w.heap.size≤q→ws.length≤C→Blk wa q #[.slice b ws.length C,.bool false] 114→(∀ j x,ws[j]? = some x→∃ g o,b=some ⟨g,o,none⟩∧wa.cell? ⟨g,o+j,none⟩=some (.string x)) →
   Calls Tryz.prog 52 #[ptr c,.string w1s,ptr q] wa fun e w'=>e = .returned (.string r)∧P w') :
  Calls Tryz.prog 22 #[ptr c,.string s] w fun e w'=>e = .returned (.string r)∧P w':=by
 have HSP:Hid (∀ wa,Below w.heap.size w wa→Calls Tryz.prog 50 #[.string s,.string blank] wa fun e w'=>e = .returned (.slice (some ⟨wa.heap.size,0,none⟩) (ws.length+1) (ws.length+1))∧w'=wa.alloc (.cells ((w1s :: ws).map Value.string).toArray 9)):=fun wa hb=>by
  have:=split_c s m wa (by omega) ((hb.cell (p:=⟨0,0,none⟩) (World.block_lt_of_cell? _ _ hm)).trans hm)
  rw [hsp,hn] at this;exact this
 obtain ⟨i0,hi,hz0,hz1,hz2⟩:=info_parts infoStr
 have HAA:=Lib.hid HA
 have HRR : Hid (∀ wa q b C, Below w.heap.size w wa → w.heap.size ≤ q → ws.length ≤ C → Blk wa q #[.slice b ws.length C, .bool false] 114 → (∀ j x, ws[j]? = some x → ∃ g o, b = some ⟨g, o, none⟩ ∧ wa.cell? ⟨g, o + j, none⟩ = some (.string x)) →
     Calls Tryz.prog 52 #[ptr c,.string w1s,ptr q] wa fun e w'=>e = .returned (.string r)∧Hid (P w')):=HR
 have HNE:=Lib.hid hne
 have hs2:¬ (2500:Int)<(s.size:Int):=by omega
 clear hsp hn hm HA HR hne
 go_enter Tryz.func22,Tryz.ntmps22
 go_wp2_with fail
 refine (HSP.out _ (Below.refl _ _)).mono ?_;rintro e w1 ⟨rfl,h⟩
 obtain ⟨wl,hwl⟩:∃ wl,w1s :: ws=wl:=⟨_,rfl⟩
 have hwn:wl.length=ws.length+1:=by rw [← hwl];rfl
 rw [hwl] at h HNE
 have BS:Hid (Blk w1 w.heap.size (wl.map Value.string).toArray 9):=by rw [h];exact Blk.new _ _ _
 have HB1:Hid (Below w.heap.size w w1):=by rw [h];show Below _ _ _;exact below_byR
 have HWL:=Lib.hid hwl
 have HWN:=Lib.hid hwn
 clear h hwl hwn
 go_wp2_with fail
 go_loopw [5,19] (fun t5 t19 wr=>∃ j:Nat,j≤ws.length+1∧t19 = .int .i64 j∧Hid (wr.ownsRow (w.heap.size+1) 9 1 t5 j ((wl.take j).map Value.string))∧Hid (Blk wr w.heap.size (wl.map Value.string).toArray 9)∧Hid (Below w.heap.size w wr)) (fun _ t19 _=>ws.length+1-(intOf t19).toNat)
 case atStart=>exact ⟨0,by omega,rfl,⟨rfl,.inl ⟨rfl,rfl⟩⟩,BS,HB1⟩
 case round =>
  obtain ⟨j,hj,rfl,HRW,HBS,HBB⟩:=hrel
  clear BS HB1
  by_cases hlt:j<ws.length+1
  ·obtain ⟨x,hx⟩:∃ x,wl[j]? = some x:=⟨_,List.getElem?_eq_getElem (by have:=HWN.out;omega)⟩
   have hc:wr.cell? ⟨w.heap.size,j,none⟩=some (.string x):=(HBS.out.at j).trans (by rw [List.getElem?_toArray,List.getElem?_map,hx];rfl)
   have hxe:x.toList.isEmpty=false:=HNE.out x (List.mem_of_getElem? hx)
   have y0:=HBS.out.lt
   have hsz:=HBB.out.size
   have j1:(j:Int)<(ws.length:Int)+1:=by omega
   have j2:(0:Int)≤(j:Int):=by omega
   have ETK:Hid ((wl.take (j+1)).map Value.string=(wl.take j).map Value.string ++ [.string x]):=by show _=_;rw [List.take_add_one,hx];simp
   clear hx
   go_wp2_with (at_builtin;refine wpList_append_own _ rfl _ _ 107 rfl (w.heap.size+1) 9 i0 (.string ByteArray.empty) 1 16 Tryz.underlying107 hi hz0 hz1 hz2 rfl (by decide) _ j _ rfl (row_below HRW.out ((Below.refl _ _).alloc (Nat.le_refl _) _)) ⟨wr.heap.size,0,none⟩ 1 1 _ rfl rfl (news_of (Blk.new _ _ _)) (str_one x) (by unfold maxLen;omega) (by omega) (by simp;omega) ?_)
   intro v' w5 hown hgrow hnil
   have hbs5:Hid (Blk w5 w.heap.size (wl.map Value.string).toArray 9):=by
    have h1:Blk (wr.alloc (Obj.cells #[Value.string x] 9)) w.heap.size (wl.map Value.string).toArray 9:=HBS.out.alloc _
    exact (hgrow.block _ h1.lt (fun e=>by have:=row_base HRW.out _ e.symm;omega)).trans h1
   have hbb5:Hid (Below w.heap.size w w5):=below_grown (Nat.le_refl _) (HBB.out.alloc hsz _) hgrow (fun g e=>by have:=row_base HRW.out g e;omega)
   have hrw5:Hid (w5.ownsRow (w.heap.size+1) 9 1 v' (j+1) ((wl.take (j+1)).map Value.string)):=by
    show World.ownsRow _ _ _ _ _ _ _
    rw [ETK.out]
    simpa using hown
   clear hown hgrow hnil HRW HBS HBB ETK
   go_wp2_with fail
   go_roundw
   case rel=>exact ⟨j+1,by omega,by go_num,hrw5,hbs5,hbb5⟩
   case measure=>first|exact (by first|(simp [intOf];done)|(simp [intOf];omega))|(simp [intOf];omega)
  ·have hjn:j=ws.length+1:=by omega
   subst hjn
   have hrw:=HRW.out
   rw [List.take_of_length_le (by have:=HWN.out;omega)] at hrw
   obtain ⟨lb,lc,rfl⟩:=own_some hrw (by omega)
   have hcells:Hid (∀ i x,wl[i]? = some x→wr.cell? ⟨lb,i,none⟩=some (.string x)):=fun i x h=>by
    obtain ⟨g2,c2,e2,-,-,h2⟩:=row_cell hrw (k:=i) (x := .string x) (by rw [List.getElem?_map,h];rfl)
    injection e2 with e2 _ _
    injection e2 with e2
    injection e2 with e2
    subst e2;exact h2
   have hlc:ws.length+1≤lc:=by
    obtain ⟨-,⟨h2,-⟩|⟨b,c2,cur,h2,-,-,h3,-⟩⟩:=hrw
    ·cases h2
    ·injection h2 with _ _ h4;omega
   have q0:wr.cell? ⟨lb,0,none⟩=some (.string w1s):=hcells.out 0 w1s (by rw [← HWL.out];rfl)
   have n1:¬ ((ws.length:Int)+1=0):=by omega
   have n2:(0:Int)<(ws.length:Int)+1:=by omega
   have HA1:Hid (Calls Tryz.prog 51 #[ptr c,.string w1s] wr fun e w'=>e = .returned (.tuple #[.string ⟨#[]⟩,.bool false])∧w'=wr):=HAA.out wr HBB.out
   have hsz:=HBB.out.size
   clear hrw HRW HBS HAA
   go_wp2_with (go_at_call 51;refine HA1.out.mono ?_;rintro e w2 ⟨rfl,h⟩;have h9:=h.symm;subst h9)
   have HL:Hid (wl[0]? = some w1s∧∀ j x,ws[j]? = some x→wl[1+j]? = some x):=by
    refine ⟨by rw [← HWL.out];rfl,fun j x h=>?_⟩
    rw [← HWL.out,Nat.add_comm]
    simpa using h
   rcases Nat.lt_or_ge 1 lc with hl1|hl1
   ·have m1:(1:Int)≤(lc:Int):=by omega
    have m2:¬ (lc=1):=by omega
    have m3:¬ (lc-1=0):=by omega
    have m4:(1:Int)≤(ws.length:Int)+1:=by omega
    have m5:(ws.length:Int)+1≤(lc:Int):=by omega
    have hlb:lb<wr.heap.size:=World.block_lt_of_cell? _ _ q0
    have HRN:Hid (∀ W,Below wr.heap.size wr W→Blk W wr.heap.size #[.slice (some ⟨lb,1,none⟩) ws.length (lc-1),.bool false] 114→Calls Tryz.prog 52 #[ptr c,.string w1s,ptr wr.heap.size] W fun e w'=>e = .returned (.string r)∧Hid (P w')):=fun W h1 h2 =>
     HRR.out W _ _ _ (HBB.out.trans (h1.mono hsz)) hsz (by omega) h2 (fun j x h=>⟨lb,1,rfl,(h1.cell (p:=⟨lb,1+j,none⟩) hlb).trans (hcells.out _ _ (HL.out.2 j x h))⟩)
    clear HRR
    go_region_with (go_at_call 52;refine (HRN.out _ below_byR (by repeat (first|with_reducible assumption|with_reducible exact Blk.new _ _ _|with_reducible refine Blk.alloc ?_ _|with_reducible refine Blk.drew ?_|(with_reducible refine Blk.setCell_other ?_ ?hB _;case hB=>(first|omega|(simp;done)|(simp;omega)))|with_reducible refine Blk.setCell_same ?_ _ _|with_reducible refine Blk.keep ?_ (by assumption)))).mono ?_;rintro e w3 ⟨rfl,hp⟩)
    all_goals go_wp2_with fail
    all_goals go_ret
    all_goals exact ⟨rfl,hp.out⟩
   ·have hlb:lb<wr.heap.size:=World.block_lt_of_cell? _ _ q0
    have hlc1:lc=1:=by omega
    subst hlc1
    have hw0:ws.length=0:=by omega
    have hws:ws = []:=List.eq_nil_of_length_eq_zero hw0
    subst hws
    have HRN:Hid (∀ W,Below wr.heap.size wr W→Blk W wr.heap.size #[.slice (some ⟨lb,0,none⟩) 0 0,.bool false] 114→Calls Tryz.prog 52 #[ptr c,.string w1s,ptr wr.heap.size] W fun e w'=>e = .returned (.string r)∧Hid (P w')):=fun W h1 h2 =>
     HRR.out W _ _ _ (HBB.out.trans (h1.mono hsz)) hsz (Nat.le_refl _) h2 (fun j x h=>by simp at h)
    clear HRR hw0 n1 n2 hl1 hlc hj hlt
    simp only [List.length_nil,Nat.zero_add,Int.natCast_zero,Int.zero_add]
    go_region_with (go_at_call 52;refine (HRN.out _ below_byR (by repeat (first|with_reducible assumption|with_reducible exact Blk.new _ _ _|with_reducible refine Blk.alloc ?_ _|with_reducible refine Blk.drew ?_|(with_reducible refine Blk.setCell_other ?_ ?hB _;case hB=>(first|omega|(simp;done)|(simp;omega)))|with_reducible refine Blk.setCell_same ?_ _ _|with_reducible refine Blk.keep ?_ (by assumption)))).mono ?_;rintro e w3 ⟨rfl,hp⟩)
    all_goals go_wp2_with fail
    all_goals go_ret
    all_goals exact ⟨rfl,hp.out⟩
end
section
variable {w:World} {c:Nat} {r:ByteArray} {P:World→Prop}
theorem line_ask (s w1s:ByteArray) (ws:List ByteArray) (hsp:Lib.splitB blank 0 (Lib.countB s blank) s=w1s :: ws) (hn:Lib.countB s blank=ws.length) (hne:∀ x ∈ w1s :: ws,x.toList.isEmpty=false) (hl:ws.length≤100) (hw:ws.length=0) (hs:s.size≤2500) (m:Int) (hm:w.cell? ⟨0,0,none⟩=some (.int .i64 m))
  (HA:∀ wa,Below w.heap.size w wa→Calls Tryz.prog 51 #[ptr c,.string w1s] wa fun e w'=>e = .returned (.tuple #[.string r,.bool true])∧P w') :
  Calls Tryz.prog 22 #[ptr c,.string s] w fun e w'=>e = .returned (.string r)∧P w':=by
 have HSP:Hid (∀ wa,Below w.heap.size w wa→Calls Tryz.prog 50 #[.string s,.string blank] wa fun e w'=>e = .returned (.slice (some ⟨wa.heap.size,0,none⟩) (ws.length+1) (ws.length+1))∧w'=wa.alloc (.cells ((w1s :: ws).map Value.string).toArray 9)):=fun wa hb=>by
  have:=split_c s m wa (by omega) ((hb.cell (p:=⟨0,0,none⟩) (World.block_lt_of_cell? _ _ hm)).trans hm)
  rw [hsp,hn] at this;exact this
 obtain ⟨i0,hi,hz0,hz1,hz2⟩:=info_parts infoStr
 have HAA:Hid (∀ wa,Below w.heap.size w wa→Calls Tryz.prog 51 #[ptr c,.string w1s] wa fun e w'=>e = .returned (.tuple #[.string r,.bool true])∧Hid (P w')):=HA
 have HW0:=Lib.hid hw
 have HNE:=Lib.hid hne
 have hs2:¬ (2500:Int)<(s.size:Int):=by omega
 clear hsp hn hm HA hne hw
 go_enter Tryz.func22,Tryz.ntmps22
 go_wp2_with fail
 refine (HSP.out _ (Below.refl _ _)).mono ?_;rintro e w1 ⟨rfl,h⟩
 obtain ⟨wl,hwl⟩:∃ wl,w1s :: ws=wl:=⟨_,rfl⟩
 have hwn:wl.length=ws.length+1:=by rw [← hwl];rfl
 rw [hwl] at h HNE
 have BS:Hid (Blk w1 w.heap.size (wl.map Value.string).toArray 9):=by rw [h];exact Blk.new _ _ _
 have HB1:Hid (Below w.heap.size w w1):=by rw [h];show Below _ _ _;exact below_byR
 have HWL:=Lib.hid hwl
 have HWN:=Lib.hid hwn
 clear h hwl hwn
 go_wp2_with fail
 go_loopw [5,19] (fun t5 t19 wr=>∃ j:Nat,j≤ws.length+1∧t19 = .int .i64 j∧Hid (wr.ownsRow (w.heap.size+1) 9 1 t5 j ((wl.take j).map Value.string))∧Hid (Blk wr w.heap.size (wl.map Value.string).toArray 9)∧Hid (Below w.heap.size w wr)) (fun _ t19 _=>ws.length+1-(intOf t19).toNat)
 case atStart=>exact ⟨0,by omega,rfl,⟨rfl,.inl ⟨rfl,rfl⟩⟩,BS,HB1⟩
 case round =>
  obtain ⟨j,hj,rfl,HRW,HBS,HBB⟩:=hrel
  clear BS HB1
  by_cases hlt:j<ws.length+1
  ·obtain ⟨x,hx⟩:∃ x,wl[j]? = some x:=⟨_,List.getElem?_eq_getElem (by have:=HWN.out;omega)⟩
   have hc:wr.cell? ⟨w.heap.size,j,none⟩=some (.string x):=(HBS.out.at j).trans (by rw [List.getElem?_toArray,List.getElem?_map,hx];rfl)
   have hxe:x.toList.isEmpty=false:=HNE.out x (List.mem_of_getElem? hx)
   have y0:=HBS.out.lt
   have hsz:=HBB.out.size
   have j1:(j:Int)<(ws.length:Int)+1:=by omega
   have j2:(0:Int)≤(j:Int):=by omega
   have ETK:Hid ((wl.take (j+1)).map Value.string=(wl.take j).map Value.string ++ [.string x]):=by show _=_;rw [List.take_add_one,hx];simp
   clear hx
   go_wp2_with (at_builtin;refine wpList_append_own _ rfl _ _ 107 rfl (w.heap.size+1) 9 i0 (.string ByteArray.empty) 1 16 Tryz.underlying107 hi hz0 hz1 hz2 rfl (by decide) _ j _ rfl (row_below HRW.out ((Below.refl _ _).alloc (Nat.le_refl _) _)) ⟨wr.heap.size,0,none⟩ 1 1 _ rfl rfl (news_of (Blk.new _ _ _)) (str_one x) (by unfold maxLen;omega) (by omega) (by simp;omega) ?_)
   intro v' w5 hown hgrow hnil
   have hbs5:Hid (Blk w5 w.heap.size (wl.map Value.string).toArray 9):=by
    have h1:Blk (wr.alloc (Obj.cells #[Value.string x] 9)) w.heap.size (wl.map Value.string).toArray 9:=HBS.out.alloc _
    exact (hgrow.block _ h1.lt (fun e=>by have:=row_base HRW.out _ e.symm;omega)).trans h1
   have hbb5:Hid (Below w.heap.size w w5):=below_grown (Nat.le_refl _) (HBB.out.alloc hsz _) hgrow (fun g e=>by have:=row_base HRW.out g e;omega)
   have hrw5:Hid (w5.ownsRow (w.heap.size+1) 9 1 v' (j+1) ((wl.take (j+1)).map Value.string)):=by
    show World.ownsRow _ _ _ _ _ _ _
    rw [ETK.out]
    simpa using hown
   clear hown hgrow hnil HRW HBS HBB ETK
   go_wp2_with fail
   go_roundw
   case rel=>exact ⟨j+1,by omega,by go_num,hrw5,hbs5,hbb5⟩
   case measure=>first|exact (by first|(simp [intOf];done)|(simp [intOf];omega))|(simp [intOf];omega)
  ·have hjn:j=ws.length+1:=by omega
   subst hjn
   have hrw:=HRW.out
   rw [List.take_of_length_le (by have:=HWN.out;omega)] at hrw
   obtain ⟨lb,lc,rfl⟩:=own_some hrw (by omega)
   have hcells:Hid (∀ i x,wl[i]? = some x→wr.cell? ⟨lb,i,none⟩=some (.string x)):=fun i x h=>by
    obtain ⟨g2,c2,e2,-,-,h2⟩:=row_cell hrw (k:=i) (x := .string x) (by rw [List.getElem?_map,h];rfl)
    injection e2 with e2 _ _
    injection e2 with e2
    injection e2 with e2
    subst e2;exact h2
   have hlc:ws.length+1≤lc:=by
    obtain ⟨-,⟨h2,-⟩|⟨b,c2,cur,h2,-,-,h3,-⟩⟩:=hrw
    ·cases h2
    ·injection h2 with _ _ h4;omega
   have q0:wr.cell? ⟨lb,0,none⟩=some (.string w1s):=hcells.out 0 w1s (by rw [← HWL.out];rfl)
   have n1:¬ ((ws.length:Int)+1=0):=by omega
   have n2:(0:Int)<(ws.length:Int)+1:=by omega
   have HA1:Hid (Calls Tryz.prog 51 #[ptr c,.string w1s] wr fun e w'=>e = .returned (.tuple #[.string r,.bool true])∧Hid (P w')):=HAA.out wr HBB.out
   have hw0:(ws.length:Int)=0:=by have:=HW0.out;omega
   clear hrw HRW HBS HAA n1 n2
   go_wp2_with fail
   refine HA1.out.mono ?_;rintro e w2 ⟨rfl,hp⟩
   go_wp2_with fail
   go_ret
   exact ⟨rfl,hp.out⟩
end
def outDB (F:FleetD):Bool :=
 match F.a[0]? with
 | none=>false
 | some m=>match F.n[m.til]? with
  | some n=>decide ((n.hear m.data m.at_ (F.w.step.1.now m.til) (F.w.step.1.fine m.til F.w.step.2)).2.1.length≤1000000)
  | none=>false
def flushO:Nat→FleetD→Bool
 | 0,_=>true
 | k+1,F=>outDB F&&flushO k (F.deliver 0).1
theorem run7:flushO 20 F2=true:=by kernel_rfl
theorem run8:(outsB F0&&outsB F1)=true:=by kernel_rfl
def bdB (T:TruD):Bool:=T.c.may&&decide (T.p.length=T.c.nodes.toNat)&&T.p.all (fun p=>inRg p.1 (-4194304) 4194304&&inRg p.2 (-4194304) 4194304)&&inRg T.time 0 750000&&inRg T.steps 0 16777215
theorem tru_of {T:TruD} (h:bdB T=true):TruOK T:=by
 simp only [bdB,inRg,Bool.and_eq_true,decide_eq_true_eq,List.all_eq_true] at h
 obtain ⟨⟨⟨⟨h1,h2⟩,h3⟩,h4⟩,h5⟩:=h
 exact ⟨h1,h2,fun p hp=>by have:=h3 p hp;omega,by omega,by omega⟩
theorem F0_bd:bdB F0.w=true:=by kernel_rfl
theorem F0_ok:FleetOK F0:=⟨tru_of F0_bd,(by kernel_rfl),(by show (0:Nat)≤512;omega),(fun m hm=>by cases hm),⟨(by show (0:Int)≤0;omega),(by show (0:Int)≤1000000;omega)⟩,by kernel_rfl⟩
theorem tick_ok {F:FleetD} (h:FleetOK F):FleetOK F.tick.1:=by
 unfold FleetD.tick
 split
 ·exact h
 ·rename_i hh
  have ht:F.w.time<750000:=by
   rcases Int.lt_or_le F.w.time 750000 with h1|h1
   ·exact h1
   ·exfalso;apply hh;unfold TruD.tick;rw [if_pos (by omega)]
  have OK1:FleetOK { F with w:=F.w.tick.1 }:=⟨truTick_ok h.t ht,by show F.w.tick.1.p.length=_;rw [← h.p];unfold TruD.tick;split <;> rfl,h.a,h.d,h.lost,h.lo⟩
  have OK2:FleetOK { F with w:=F.w.tick.1.step.1 }:=⟨truStep_ok OK1.t,OK1.p,h.a,h.d,h.lost,h.lo⟩
  exact tickJ_ok OK2 _ _
theorem hear_ok {F:FleetD} (h:FleetOK F) (i:Nat) (b:List Nat) (at_ G:Int):FleetOK (F.hear i b at_ G):=by
 unfold FleetD.hear
 split
 ·exact h
 ·exact send_ok' (setN_ok h i _) i G _
theorem del_ok {F:FleetD} (h:FleetOK F) (i:Int):FleetOK (F.deliver i).1:=by
 unfold FleetD.deliver
 split
 ·exact h
 ·split
  ·exact h
  ·have OK1:FleetOK { F with w:=F.w.step.1 }:=⟨truStep_ok h.t,h.p,h.a,h.d,h.lost,h.lo⟩
   simp only
   split
   ·exact OK1
   ·have OK2:FleetOK { F with w:=F.w.step.1,a:=F.a.eraseIdx i.toNat }:=⟨truStep_ok h.t,h.p,Nat.le_trans (List.length_eraseIdx_le ..) h.a,fun p hp=>h.d p (List.mem_of_mem_eraseIdx hp),h.lost,h.lo⟩
    split
    ·exact hear_ok OK2 _ _ _ _
    ·exact OK2
theorem flushN_succ:∀ (k:Nat) (F:FleetD),flushN (k+1) F=((flushN k F).deliver 0).1
 | 0,_=>rfl
 | k+1,F=>by
  show flushN (k+1) (F.deliver 0).1=_
  rw [flushN_succ k];rfl
theorem flushN_ok {F:FleetD} (h:FleetOK F):∀ k,FleetOK (flushN k F)
 | 0=>h
 | k+1=>by rw [flushN_succ];exact del_ok (flushN_ok h k) 0
theorem flushB_at:∀ (n:Nat) (F:FleetD) (j:Nat),flushB n F=true→j<n→delB (flushN j F) 0=true
 | 0,_,_,_,h=>by omega
 | n+1,F,0,h,_=>by simp only [flushB,Bool.and_eq_true] at h;exact h.1
 | n+1,F,j+1,h,hj=>by simp only [flushB,Bool.and_eq_true] at h;exact flushB_at n _ j h.2 (by omega)
theorem flushO_at:∀ (n:Nat) (F:FleetD) (j:Nat),flushO n F=true→j<n→outDB (flushN j F)=true
 | 0,_,_,_,h=>by omega
 | n+1,F,0,h,_=>by simp only [flushO,Bool.and_eq_true] at h;exact h.1
 | n+1,F,j+1,h,hj=>by simp only [flushO,Bool.and_eq_true] at h;exact flushO_at n _ j h.2 (by omega)
section
variable {w0:World} {c g tw ta:Nat} {gs:List Nat} {nv bv:Value} {nodes:Int}
theorem con_tick (F:FleetD) (OK:FleetOK F) (h1:tickAllB F=true) (h2:outsB F=true) (w1:World) (H:ConO w0 c g tw ta gs nv bv nodes F w1) :
  Calls Tryz.prog 12 #[ptr g,stepV 2 0] w1 fun e w'=>e = .returned (.int .i64 0)∧ConO w0 c g tw ta gs nv bv nodes F.tick.1 w':=by
 simp only [tickAllB,Bool.and_eq_true,decide_eq_true_eq,List.all_eq_true,List.mem_range] at h1
 simp only [outsB,List.all_eq_true,List.mem_range] at h2
 refine do_tick (fun w2 hb=>?_)
 obtain ⟨owr,k1,k2⟩:=(H.below hb).fl
 refine (ftick_c k1 OK h1.1 (fun i n hn hon=>?_) (fun i n hn=>?_)).mono ?_
 ·have:=h1.2 i (List.getElem?_eq_some_iff.1 hn).1
  rw [hn] at this
  simp only [hon,Bool.not_true,Bool.false_or] at this
  exact tickC_of _ _ _ this
 ·have:=h2 i (List.getElem?_eq_some_iff.1 hn).1
  rw [hn] at this
  exact of_decide_eq_true this
 ·rintro e w' ⟨rfl,h3⟩
  exact ⟨rfl,k2 _ _ h3⟩
theorem con_del (F:FleetD) (OK:FleetOK F) (h1:delB F 0=true) (h2:outDB F=true) (w1:World) (H:ConO w0 c g tw ta gs nv bv nodes F w1) :
  Calls Tryz.prog 12 #[ptr g,stepV 3 0] w1 fun e w'=>e = .returned (.int .i64 0)∧ConO w0 c g tw ta gs nv bv nodes (F.deliver 0).1 w':=by
 unfold delB at h1
 unfold outDB at h2
 cases hm:F.a[0]? with
 | none=>rw [hm] at h1;cases h1
 | some m =>
  rw [hm] at h1 h2
  simp only [Bool.and_eq_true,decide_eq_true_eq] at h1 h2
  obtain ⟨⟨ht,hon⟩,h3⟩:=h1
  cases hn:F.n[m.til]? with
  | none=>rw [hn] at h3;cases h3
  | some n =>
   rw [hn] at h3 h2
   refine do_del 0 (fun w2 hb=>?_)
   obtain ⟨owr,k1,k2⟩:=(H.below hb).fl
   refine (fdel_c k1 OK 0 m hm ht n hn hon (hearC_of _ _ _ _ _ h3) (of_decide_eq_true h2)).mono ?_
   rintro e w' ⟨rfl,h4⟩
   exact ⟨rfl,k2 _ _ h4⟩
end
def nemB (l:List ByteArray):Bool:=l.all (fun x=>! x.toList.isEmpty)
theorem neb_of {l:List ByteArray} (h:nemB l=true):∀ x ∈ l,x.toList.isEmpty=false:=fun x hx=>by
 have:=List.all_eq_true.1 h x hx
 simpa using this
theorem run9:F3.on = [true,true,true,true,true]:=by kernel_rfl
theorem F1_ok:FleetOK F1:=tick_ok F0_ok
theorem F2_ok:FleetOK F2:=tick_ok F1_ok
theorem F3_ok:FleetOK F3:=flushN_ok F2_ok 20
section
variable {w0 w1:World} {c g tw ta:Nat} {gs:List Nat} {nv bv:Value} {m:Int}
def FsT (j:Nat):FleetD:=if j=0 then F0 else if j=1 then F1 else F2
theorem aw_tick (H:ConO w0 c g tw ta gs nv bv 5 F0 w1) (hm:w1.cell? ⟨0,0,none⟩=some (.int .i64 m)) :
  Calls Tryz.prog 22 #[ptr c,.string { data:=#[116,105,99,107,32,50] }] w1 fun e w'=>e = .returned (.string ⟨#[111,107]⟩)∧ConO w0 c g tw ta gs nv bv 5 F2 w':=by
 refine line_run _ sTick [⟨#[50]⟩] (by kernel_rfl) (by kernel_rfl) (neb_of (by kernel_rfl)) (by decide) (by decide) m hm (fun wa hb=>asked_tick) (fun wa q b C hb hq hC B hx=>run_tick ?_)
 obtain ⟨g',o,rfl,hc⟩:=hx 0 _ rfl
 refine cticks_c 2 (by omega) FsT H hb hq ⟨#[50]⟩ (by kernel_rfl) (by kernel_rfl) (by decide) B hc hC (fun j hj w2 h=>?_)
 rcases j with _|_|j
 ·exact con_tick F0 F0_ok run1 (by have:=run8;simp only [Bool.and_eq_true] at this;exact this.1) w2 h
 ·exact con_tick F1 F1_ok run2 (by have:=run8;simp only [Bool.and_eq_true] at this;exact this.2) w2 h
 ·omega
theorem ok20:(⟨#[111,107,32]⟩:ByteArray)++⟨(Lib.decDigits 20).toArray⟩ = { data:=#[111,107,32,50,48] }:=by kernel_rfl
theorem aw_flush (H:ConO w0 c g tw ta gs nv bv 5 F2 w1) (hm:w1.cell? ⟨0,0,none⟩=some (.int .i64 m)) :
  Calls Tryz.prog 22 #[ptr c,.string { data:=#[102,108,117,115,104] }] w1 fun e w'=>e = .returned (.string { data:=#[111,107,32,50,48] })∧ConO w0 c g tw ta gs nv bv 5 F3 w':=by
 refine line_run _ sFlush [] (by kernel_rfl) (by kernel_rfl) (neb_of (by kernel_rfl)) (by decide) (by decide) m hm (fun wa hb=>asked_flush) (fun wa q b C hb hq hC B hx=>run_flush ?_)
 rw [← ok20]
 exact cflush_c 20 (by omega) (Nat.le_of_ble_eq_true (by kernel_rfl)) (fun j=>flushN j F2) H hb run3 B (fun j hj w2 h=>by
  show Calls _ _ _ _ fun e w'=>_∧ConO w0 c g tw ta gs nv bv 5 (flushN (j+1) F2) w'
  rw [flushN_succ]
  exact con_del (flushN j F2) (flushN_ok F2_ok j) (flushB_at 20 F2 j run4 hj) (flushO_at 20 F2 j run7 hj) w2 h)
theorem aw_where (H:ConO w0 c g tw ta gs nv bv 5 F3 w1) (hm:w1.cell? ⟨0,0,none⟩=some (.int .i64 m)) :
  Calls Tryz.prog 22 #[ptr c,.string { data:=#[119,104,101,114,101,32,51] }] w1 fun e w'=>e = .returned (.string ⟨#[108,111,115,116]⟩)∧ConO w0 c g tw ta gs nv bv 5 F3 w':=by
 obtain ⟨n,hn,hv⟩:∃ n,F3.n[3]? = some n∧(nodB n && ! n.fv)=true:=by
  have:=run6
  cases h:F3.n[3]? with
  | none=>rw [h] at this;cases this
  | some n=>rw [h] at this;exact ⟨n,rfl,Option.some.inj this⟩
 simp only [Bool.and_eq_true,Bool.not_eq_true'] at hv
 refine line_run _ sWhere [⟨#[51]⟩] (by kernel_rfl) (by kernel_rfl) (neb_of (by kernel_rfl)) (by decide) (by decide) m hm (fun wa hb=>asked_where) (fun wa q b C hb hq hC B hx=>run_where ?_)
 obtain ⟨g',o,rfl,hc⟩:=hx 0 _ rfl
 exact cof_c H hb hq 3 n hn hv.2 (nodB_ok n hv.1).t (by omega) ⟨#[51]⟩ (by kernel_rfl) (by kernel_rfl) (by decide) B hc hC
theorem aw_sure (H:ConO w0 c g tw ta gs nv bv 5 F3 w1) (hm:w1.cell? ⟨0,0,none⟩=some (.int .i64 m)) :
  Calls Tryz.prog 22 #[ptr c,.string sSure] w1 fun e w'=>e = .returned (.string ⟨#[121,101,115]⟩)∧ConO w0 c g tw ta gs nv bv 5 F3 w':=by
 refine line_ask _ sSure [] (by kernel_rfl) (by kernel_rfl) (neb_of (by kernel_rfl)) (by decide) rfl (by decide) m hm (fun wa hb=>asked_sure (csure_c 5 (by omega) (H.below hb) F3_ok (fun i hi=>?_)))
 have h5:=run5
 simp only [sureB,List.all_eq_true,List.mem_range] at h5
 have h6:=h5 i hi
 split at h6
 ·rename_i n p hn hp
  simp only [Bool.and_eq_true,Bool.or_eq_true,Bool.not_eq_true'] at h6
  refine ⟨n,p.1,p.2,hn,hp,(nodB_ok n h6.1).t,?_,fun hf=>?_⟩
  ·rw [run9]
   rcases i with _|_|_|_|_|i
   ·rfl
   ·rfl
   ·rfl
   ·rfl
   ·rfl
   ·omega
  ·rcases h6.2 with e|e
   ·rw [hf] at e;cases e
   ·exact e
 ·cases h6
end
theorem tawake_c (w:World) (m:Int) (hm:w.cell? ⟨0,0,none⟩=some (.int .i64 m)):Calls Tryz.prog 7 #[] w fun e w'=>e = .returned (.bool true)∧Below w.heap.size w w':=by
 have h0:=World.block_lt_of_cell? _ _ hm
 go_enter Tryz.func7,Tryz.ntmps7
 go_wp2_with fail
 refine (conNew_c _).mono ?_;rintro e w1 ⟨c,rfl,g,tw,ta,gs,nv,bv,hc⟩
 have HM:∀ {F:FleetD} {w2:World},ConO w c g tw ta gs nv bv 5 F w2→w2.cell? ⟨0,0,none⟩=some (.int .i64 m):=fun h=>(h.bel.cell (p:=⟨0,0,none⟩) h0).trans hm
 have HC1:=Lib.hid hc
 clear hc
 go_wp2_with fail
 refine (aw_tick HC1.out (HM HC1.out)).mono ?_;rintro e w2 ⟨rfl,hc⟩
 have HC2:=Lib.hid hc
 clear hc HC1
 go_wp2_with fail
 refine (aw_flush HC2.out (HM HC2.out)).mono ?_;rintro e w3 ⟨rfl,hc⟩
 have HC3:=Lib.hid hc
 clear hc HC2
 go_wp2_with fail
 refine (aw_where HC3.out (HM HC3.out)).mono ?_;rintro e w4 ⟨rfl,hc⟩
 have HC4:=Lib.hid hc
 clear hc HC3
 go_wp2_with fail
 refine (aw_sure HC4.out (HM HC4.out)).mono ?_;rintro e w5 ⟨rfl,hc⟩
 have HC5:=Lib.hid hc
 clear hc HC4
 go_wp2_with fail
 go_ret
 exact ⟨rfl,HC5.out.bel⟩
end Go.Proofs.YtechbdnhalmobaaGreatDoor
