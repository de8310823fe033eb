/- The walk of truth.New. -/
import Derived.Test.YtechbdnhalmobaaGreatDoorA22
namespace Go.Proofs.YtechbdnhalmobaaGreatDoor
set_option maxRecDepth 100000
set_option maxHeartbeats 16000000
set_option linter.unusedSimpArgs false
set_option linter.unusedVariables false
open Go.RowKit Go.Maps
theorem tin_c (n l m:Int) (h1:l≤n) (h2:n≤m) (w:World):Calls Tryz.prog 174 #[.int .i64 n,.int .i64 l,.int .i64 m] w fun e w'=>e = .returned (.bool true)∧w'=w:=by
 go_enter Tryz.func174,Tryz.ntmps174
 go_wp2
 go_ret
 exact ⟨by simp [h2],rfl⟩
theorem truMay_c (c:Cfg) (h:c.may=true) (w:World):Calls Tryz.prog 114 #[cfgV c] w fun e w'=>e = .returned (.bool true)∧Below w.heap.size w w':=by
 obtain ⟨x0,x1,x2,x3,x4,x5,x6,x7,x8,x9,x10⟩:=c
 simp only [Cfg.may,inRg,Bool.and_eq_true,decide_eq_true_eq] at h
 obtain ⟨⟨⟨⟨⟨⟨⟨⟨⟨⟨⟨⟨a0,b0⟩,a1,b1⟩,a2,b2⟩,a3,b3⟩,a5,b5⟩,a4,b4⟩,a6,b6⟩,a8,b8⟩,a7,b7⟩,a9,b9⟩,a10,b10⟩,hp⟩:=h
 have hp0:0≤x9*(x6+2*x4+2):=Int.mul_nonneg (by omega) (by omega)
 have w1:IntKind.i64.wrap (2*x4)=2*x4:=IntWalk.i64_in _ (by omega)
 have w2:IntKind.i64.wrap (x6+2*x4)=x6+2*x4:=IntWalk.i64_in _ (by omega)
 have w3:IntKind.i64.wrap (x6+2*x4+2)=x6+2*x4+2:=IntWalk.i64_in _ (by omega)
 have w4:IntKind.i64.wrap (x9*(x6+2*x4+2))=x9*(x6+2*x4+2):=IntWalk.i64_in _ (by omega)
 go_enter Tryz.func114,Tryz.ntmps114
 go_wp2_with (go_at_call 174;refine (tin_c _ _ _ ?h1 ?h2 _).mono ?_;(case h1=>assumption);(case h2=>assumption);rintro e w1 ⟨rfl,h⟩;have h9:=h.symm;subst h9)
 go_ret
 exact ⟨by first|rfl|simp [hp],below_byR⟩
theorem infoPt:(Tryz.prog.info? 31).map (fun i=>(i.zero,i.size,i.bytes))=some (some (.agg #[.int .i64 0,.int .i64 0]),2,16):=by kernel_rfl
theorem ptL_one (p:Int × Int):∀ u ∈ ptL p,u.oneCell'=true:=by intro u hu;simp at hu;rcases hu with rfl|rfl <;> rfl
theorem tru_blk {S:Nat→Prop} {x W w5:World} {g:Nat} {T:TruD} {pv mv:Value} (H:TruIn S x g T pv mv) (hb:Below x.heap.size x W) (hg:W.grownBy w5 pv.ownBlock):Blk w5 g (truC T pv mv) 134:=by
 have hrW:=row_below H.rp hb
 have hAW:=H.blk.keep hb
 obtain ⟨-,⟨rfl,-⟩|⟨b,cap,cur,rfl,-,h2,-⟩⟩:=hrW
 ·exact hAW.keep (grown_below hg)
 ·exact (grown_only hg).blk hAW (Blk.ne hAW (show Blk W b cur 31 from h2) (by decide))
theorem tru_push {S:Nat→Prop} {x W w5:World} {g:Nat} {T:TruD} {pv mv v2:Value} {q:Int × Int} (H:TruIn S x g T pv mv) (hb:Below x.heap.size x W) (hrow:w5.ownsRow 0 31 2 v2 (T.p.length+1) (T.p.flatMap ptL++ptL q)) (hg:W.grownBy w5 pv.ownBlock)
  (hat:v2.ownBlock=pv.ownBlock∨v2.ownBlock=some W.heap.size):Turns S x (w5.setCell ⟨g,11,none⟩ v2)∧TruIn (Sn S x) (w5.setCell ⟨g,11,none⟩ v2) g { T with p:=T.p ++ [q] } v2 mv:=by
 have hrW:=row_below H.rp hb
 have hT:Turns S x w5:=(Turns.of_below (S:=S) hb).trans (S':=fun k=>pv.ownBlock=some k) ⟨hg.os,hg.tape,hg.output,hg.size,fun k hk hn=>hg.block k hk (fun e=>hn e.symm)⟩ (fun k _ e=>H.sp k e)
 have hA5:=tru_blk H hb hg
 have O:OnlyAt g w5 (w5.setCell ⟨g,11,none⟩ v2):=OnlyAt.refl.setCell 11 _
 have hO:TurnsT (fun _=>True) [134] false w5 _:=TurnsT.of_only O hA5 (List.mem_singleton.2 rfl) trivial
 have hm5:w5.ownsRow 0 4 1 mv T.moved.length (T.moved.map Value.bool):=by
  have:=row_below H.rm hb
  obtain ⟨-,⟨rfl,-⟩|⟨b,cap,cur,rfl,-,h2,-⟩⟩:=hrW
  ·exact row_below this (grown_below hg)
  ·exact row_turns this (TurnsT.of_only (S:=fun _=>True) (mp:=false) (grown_only hg) (show Blk W b cur 31 from h2) (List.mem_singleton.2 rfl) trivial) (by decide)
 refine ⟨hT.then_only O (.inl H.sg),(hA5.setCell_same 11 _).of_eq rfl,.inl H.sg,?_,?_,row_turns hm5 hO (by decide),fun b e => .inl (H.sm b e)⟩
 ·have:=row_turns hrow hO (by decide)
  simpa using this
 ·intro b e
  rcases hat with h|h
  ·exact .inl (H.sp b (h ▸ e))
  ·rw [h] at e;injection e with e
   have:=hb.size
   exact .inr (by omega)
def ptAt (i:Nat):Int × Int:=(1000*((i:Int)%8),1000*((i:Int)/8))
def truK (c:Cfg) (k:Nat):TruD:=⟨c,(List.range k).map ptAt,List.replicate c.nodes.toNat false,0,0⟩
theorem truK_len (c:Cfg) (k:Nat):(truK c k).p.length=k:=by simp [truK]
theorem truK_succ (c:Cfg) (k:Nat):({ truK c k with p:=(truK c k).p ++ [ptAt k] } : TruD)=truK c (k+1):=by unfold truK;simp [List.range_succ]
theorem truNew_c (c:Cfg) (hc:c.may=true) (w:World):Calls Tryz.prog 53 #[cfgV c] w fun e w'=>∃ g,e = .returned (ptr g)∧TruAt (fun k=>w.heap.size≤k) w' g (.new c)∧Below w.heap.size w w':=by
 have hcb:=cfg_bd c hc
 obtain ⟨N,hN⟩:∃ N:Nat,c.nodes=(N:Int):=⟨c.nodes.toNat,by omega⟩
 have hN64:N≤64:=by omega
 have hm:=run_make_row' (P:=Tryz.prog) 71 4 (.bool false) 1 Tryz.underlying71 infoBool rfl .i64 .i64 N (by omega) (by omega)
 obtain ⟨i0,hi,hz0,hz1,hz2⟩:=info_parts infoPt
 have HC:=Lib.hid hc
 have EV:Hid (TruD.new c=truK c N):=by show _=_;unfold TruD.new truK ptAt;rw [hN];simp
 obtain ⟨x0,x1,x2,x3,x4,x5,x6,x7,x8,x9,x10⟩:=c
 simp only at hN
 subst hN
 clear hc hcb
 go_enter Tryz.func53,Tryz.ntmps53
 go_wp2_with (go_at_call 114;refine (truMay_c _ HC.out _).mono ?_;rintro e w1 ⟨rfl,hb1⟩;have z_w1:=hb1.size;(try simp at z_w1);obtain ⟨yw1aa,cw1aa,fw1aa,rw1aa,tw1aa,pw1aa⟩:=bq hb1 (w.heap.size))
 have BC:Hid (Blk w1 w.heap.size #[.int .i64 N,.int .i64 x1,.int .i64 x2,.int .i64 x3,.int .i64 x4,.int .i64 x5,.int .i64 x6,.int .i64 x7,.int .i64 x8,.int .i64 x9,.int .i64 x10] 26):=Blk.keep (Blk.new _ _ _) hb1
 have HB1:Hid (Below w.heap.size w w1):=(show Below _ _ _ from below_byR)
 clear z_w1 yw1aa cw1aa fw1aa rw1aa tw1aa pw1aa
 clear hb1
 obtain ⟨y1,c1,f1,-⟩:=bk_o BC.out
 have r11:=BC.out.row?_all 11 rfl
 have hz:=HB1.out.size
 obtain ⟨cc,hcc⟩:∃ cc:Cfg,(⟨(N:Int),x1,x2,x3,x4,x5,x6,x7,x8,x9,x10⟩:Cfg)=cc:=⟨_,rfl⟩
 have HCE:=Lib.hid hcc
 go_cut [3] from 4 (fun s3 wc=>∃ tg,s3=ptr tg∧Hid (∃ pv mv,TruIn (fun k=>w.heap.size≤k) wc tg (truK cc 0) pv mv)∧Hid (Blk wc w.heap.size #[.int .i64 N,.int .i64 x1,.int .i64 x2,.int .i64 x3,.int .i64 x4,.int .i64 x5,.int .i64 x6,.int .i64 x7,.int .i64 x8,.int .i64 x9,.int .i64 x10] 26)∧Hid (Below w.heap.size w wc))
 case first =>
  go_region
  all_goals go_wp2_with fail
  all_goals go_meet
  all_goals refine ⟨_,rfl,?_,?_,?_⟩
  ·have hmv:(truK cc 0).moved=List.replicate N false:=by rw [← hcc];simp [truK]
   have MO:=made_own w1 N (by unfold maxLen;omega)
   refine ⟨.slice none 0 0,.slice (some ⟨w1.heap.size,0,none⟩) N N,?_⟩
   refine ⟨Blk.of_eq (Blk.new1 w1 _ _ _).drew (by rw [← hcc];rfl),by show _≤_;omega,⟨rfl,.inl ⟨rfl,rfl⟩⟩,(fun b e=>by cases e),?_,(fun b e=>by injection e with e;show _≤_;simp only at e;omega)⟩
   rw [hmv]
   have:=row_below (row_below MO ((Below.refl _ _).alloc (Nat.le_refl _) (.cells (truC (truK cc 0) (.slice none 0 0) (.slice (some ⟨w1.heap.size,0,none⟩) N N)) 134))) (Below.refl _ _).drew
   have e:truC (truK cc 0) (.slice none 0 0) (.slice (some ⟨w1.heap.size,0,none⟩) N N)=#[.int .i64 N,.int .i64 x1,.int .i64 x2,.int .i64 x3,.int .i64 x4,.int .i64 x5,.int .i64 x6,.int .i64 x7,.int .i64 x8,.int .i64 x9,.int .i64 x10,.slice none 0 0,.slice (some ⟨w1.heap.size,0,none⟩) N N,.int .i64 0,.int .i64 0]:=by rw [← hcc];rfl
   rw [e] at this
   simpa using this
  ·show Blk _ _ _ _;have XX:=BC.out;exact (by repeat (first|with_reducible assumption|with_reducible exact Blk.new _ _ _|with_reducible refine Blk.alloc ?_ _|with_reducible refine Blk.drew ?_|(with_reducible refine Blk.setCell_other ?_ ?hB _;case hB=>(first|omega|(simp;done)|(simp;omega)))|with_reducible refine Blk.setCell_same ?_ _ _|with_reducible refine Blk.keep ?_ (by assumption)))
  ·show Below _ _ _;have XX:=HB1.out;exact below_byR
 case rest =>
  obtain ⟨tg,rfl,HT,HBC,HBB⟩:=hcut
  clear y1 c1 f1 r11 BC HB1 hz hcc
  obtain ⟨y1,c1,f1,-⟩:=bk_o HBC.out
  go_wp2_with fail
  clear y1 c1 f1
  go_loopw [16] (fun t16 wr=>∃ k:Nat,k≤N∧t16 = .int .i64 k∧Hid (∃ pv mv,TruIn (fun k=>w.heap.size≤k) wr tg (truK cc k) pv mv)∧Hid (Below w.heap.size w wr)) (fun t16 _=>N-(intOf t16).toNat)
  case atStart=>exact ⟨0,by omega,rfl,HT,HBB⟩
  case round =>
   obtain ⟨k,hk,rfl,HK,HBK⟩:=hrel
   obtain ⟨pv,mv,HK⟩:=HK.out
   by_cases hlt:k<N
   ·obtain ⟨ao,cap,rfl⟩:=row_form HK.rp
    rw [truK_len] at HK
    have hrp:=HK.rp
    rw [truK_len] at hrp
    have q11:wr.cell? ⟨tg,11,none⟩=some (.slice ao k cap):=HK.blk.cell rfl
    have f1:=HK.blk.frozen
    have y1:=HK.blk.lt
    have hsz:=HBK.out.size
    have k1:(k:Int)<(N:Int):=by omega
    have k2:(0:Int)≤(k:Int):=by omega
    have HKK:=Lib.hid HK
    have HRP:=Lib.hid hrp
    clear HK hrp
    go_wp2_with (at_builtin;refine wpList_append_own_at _ rfl _ _ 132 rfl 0 31 i0 (.agg #[.int .i64 0,.int .i64 0]) 2 16 Tryz.underlying132 hi hz0 hz1 hz2 rfl (by decide) _ k _ rfl (row_below HRP.out ((Below.refl _ _).alloc (Nat.le_refl _) _)) ⟨wr.heap.size,0,none⟩ 1 1 _ rfl rfl (news_of (Blk.new _ _ _)) (ptL_one (ptAt k)) (by unfold maxLen;omega) (by omega) (by omega) ?_)
    intro v' w5 hown hgrow hnil hat
    obtain ⟨g',cap',rfl⟩:=own_some hown (by omega)
    have YA:=tru_blk HKK.out ((Below.refl _ _).alloc (Nat.le_refl _) _) hgrow
    have YE:=Lib.hid (tru_push (q:=ptAt k) HKK.out ((Below.refl _ _).alloc (Nat.le_refl _) _) (by rw [truK_len];exact hown) hgrow (by simpa using hat))
    clear hown hgrow hnil hat
    obtain ⟨y2,c2,f2,-⟩:=bk_o YA
    clear YA
    go_wp2_with fail
    go_roundw
    case rel =>
     refine ⟨k+1,by omega,by go_num,(show ∃ pv mv,_ from ⟨.slice (some ⟨g',0,none⟩) (k+1) cap',mv,?_⟩),?_⟩
     ·rw [← truK_succ]
      exact YE.out.2.kept (fun _ _ _=>rfl) (fun j _ hj=>by
       rcases hj with hj|hj
       ·exact hj
       ·show _≤_;omega)
     ·exact YE.out.1.below HBK.out (Nat.le_refl _) (fun j hj=>hj)
    case measure=>exact (by first|(simp [intOf];done)|(simp [intOf];omega))
   ·have hkN:k=N:=by omega
    subst hkN
    have k1:¬ ((k:Int)<(k:Int)):=by omega
    have HKK:=Lib.hid HK
    clear HK
    go_wp2_with fail
    go_ret
    rw [EV.out,HCE.out]
    exact ⟨_,rfl,⟨pv,mv,HKK.out⟩,HBK.out⟩
def TickC (n n2:NodeD) (now fine:Int) (o:List OutD):Prop :=
 ∀ (S:Nat→Prop) (w:World) (g:Nat) (L:NLay),NodeAt S w g L n→Calls Tryz.prog 67 #[ptr g,.int .i64 now,.int .i64 fine] w fun e w'=>∃ v,e = .returned v∧Turns S w w'∧(∃ L',NodeAt (Sn S w) w' g L' n2)∧w'.ownsRow 0 195 16 v o.length (o.flatMap outL)∧∀ b,v.ownBlock=some b→Sn S w b
def HearC (n n2:NodeD) (l:List Nat) (at_ now fine:Int) (o:List OutD):Prop :=
 ∀ (S:Nat→Prop) (w:World) (g:Nat) (L:NLay) (v:Value),NodeAt S w g L n→(∀ k,w.heap.size≤k→S k)→RdB w v l→Calls Tryz.prog 146 #[ptr g,v,.int .i64 at_,.int .i64 now,.int .i64 fine] w fun e w' =>
  ∃ vo k,e = .returned (.tuple #[vo,.int .i64 k])∧Turns S w w'∧(∃ L2,NodeAt S w' g L2 n2)∧w'.ownsRow 0 195 16 vo o.length (o.flatMap outL)∧∀ b,vo.ownBlock=some b→S b
def ascB {α:Type} : List (Int × α)→Bool
 | []=>true
 | p :: r=>r.all (fun q=>decide (p.1<q.1))&&ascB r
theorem ascB_iff {α:Type} : ∀ l:List (Int × α),ascB l=true→l.Pairwise (fun p q=>p.1<q.1)
 | [],_=>List.Pairwise.nil
 | p :: r,h=>by
  simp only [ascB,Bool.and_eq_true,List.all_eq_true,decide_eq_true_eq] at h
  exact List.Pairwise.cons (fun q hq=>h.1 q hq) (ascB_iff r h.2)
def tabB (t:TabD):Bool :=
 inRg t.most 1 64&&t.ents.all (fun p=>decide (p.2.node=p.1)&&inRg p.1 0 63&&inRg p.2.boot 0 65535&&inRg p.2.heard 0 1000000&&(!p.2.has||p.2.e.may)&&inRg p.2.when 0 1000000) &&
 t.lives.all (fun p=>inRg p.1 0 63&&inRg p.2.boot 0 65535&&inRg p.2.w.last 0 65535&&decide (p.2.w.seen<18446744073709551616))&&ascB t.ents&&ascB t.lives
theorem tabB_ok (t:TabD) (h:tabB t=true):TabOK t:=by
 simp only [tabB,inRg,Bool.and_eq_true,decide_eq_true_eq,List.all_eq_true,Bool.or_eq_true,Bool.not_eq_true'] at h
 obtain ⟨⟨⟨⟨h1,h2⟩,h3⟩,h4⟩,h5⟩:=h
 refine ⟨by omega,fun p hp=>?_,fun p hp=>?_,ascB_iff _ h4,ascB_iff _ h5⟩
 ·obtain ⟨⟨⟨⟨⟨a,b⟩,c⟩,d⟩,e⟩,f⟩:=h2 p hp
  refine ⟨a,by omega,by omega,by omega,by omega,by omega,by omega,fun hh=>?_,by omega,by omega⟩
  rcases e with e|e
  ·rw [hh] at e;cases e
  ·exact e
 ·obtain ⟨⟨⟨a,b⟩,c⟩,d⟩:=h3 p hp
  exact ⟨by omega,by omega,by omega,by omega,by omega,by omega,d⟩
def nodB (n:NodeD):Bool:=n.c.may&&inRg n.id 0 63&&inRg n.boot 0 65535&&inRg n.seq 0 65535&&inRg n.bad 0 1000000&&tabB n.t&&inRg n.b.left 0 1000&&inRg n.b.n 0 1000&&inRg n.tm.every 1 1000000&&(!n.fv||n.fe.may)
theorem nodB_ok (n:NodeD) (h:nodB n=true):NodeOK n:=by
 simp only [nodB,inRg,Bool.and_eq_true,decide_eq_true_eq,Bool.or_eq_true,Bool.not_eq_true'] at h
 obtain ⟨⟨⟨⟨⟨⟨⟨⟨⟨h1,h2⟩,h3⟩,h4⟩,h5⟩,h6⟩,h7⟩,h8⟩,h9⟩,h10⟩:=h
 refine ⟨h1,by omega,by omega,by omega,by omega,tabB_ok _ h6,by omega,by omega,fun hh=>?_⟩
 rcases h10 with e|e
 ·rw [hh] at e;cases e
 ·exact e
def node1 (n:NodeD) (now:Int):NodeD:={ n with b:=⟨n.b.n,n.b.n⟩,t:=n.t.evict now n.c.silent,tm:=(n.tm.due now).1 }
def firstF (n:NodeD):FrD:=if n.fv then estF n.fe else fr0 1
def tickB (n:NodeD) (now fine:Int):Bool :=
 nodB n&&n.t.ents.isEmpty&&timeB now&&(! (n.tm.due now).2||nodB (node1 n now)&&(node1 n now).b.take.2&&nodB ((node1 n now).send now fine (firstF n)).1&&((node1 n now).send now fine (firstF n)).1.t.ents.isEmpty)
theorem ntell_nil (n:NodeD) (now fine:Int) (h:n.t.ents = []):n.tell now fine=(n,[]):=by
 unfold NodeD.tell TabD.all;rw [h];rfl
theorem npoll_nil (n:NodeD) (now fine:Int) (h:n.t.ents = []):n.poll now fine=(n,[]):=by
 unfold NodeD.poll TabD.all;rw [h];rfl
theorem tick_eq (n:NodeD) (now fine:Int) (hn:timeB now=true) (hd:(n.tm.due now).2=true) (h:((node1 n now).send now fine (firstF n)).1.t.ents = []) :
  n.tick now fine=(((node1 n now).send now fine (firstF n)).1,((node1 n now).send now fine (firstF n)).2.2):=by
 obtain ⟨q,hq⟩:∃ q,(node1 n now).send now fine (firstF n)=q:=⟨_,rfl⟩
 have e:n.tick now fine=((((q.1.tell now fine).1).poll now fine).1,q.2.2++(q.1.tell now fine).2++(((q.1.tell now fine).1).poll now fine).2):=by
  rw [← hq]
  unfold NodeD.tick
  rw [if_neg (by rw [hn];decide)]
  simp only [hd,Bool.true_eq_false,if_false]
  rfl
 rw [hq] at h
 rw [e,hq,ntell_nil q.1 now fine h,npoll_nil q.1 now fine h]
 simp
theorem send_take (n:NodeD) (now fine:Int) (f:FrD) (h:n.b.take.2=true):n.send now fine f=((n.send now fine f).1,((n.send now fine f).2.1.1,true),(n.send now fine f).2.2):=by
 unfold NodeD.send;rw [if_pos h]
theorem tickC_of (n:NodeD) (now fine:Int) (h:tickB n now fine=true):TickC n (n.tick now fine).1 now fine (n.tick now fine).2:=by
 simp only [tickB,Bool.and_eq_true,Bool.or_eq_true,Bool.not_eq_true',List.isEmpty_iff] at h
 obtain ⟨⟨⟨h1,hE⟩,hn⟩,h2⟩:=h
 have OK:=nodB_ok n h1
 intro S w g L H
 by_cases hd:(n.tm.due now).2=true
 ·rw [hd] at h2
  rcases h2 with h2|⟨⟨⟨h2,h3⟩,h4⟩,h5⟩
  ·cases h2
  rw [tick_eq n now fine hn hd h5]
  have hdd:n.tm.due now=((n.tm.due now).1,true):=by rw [← hd]
  by_cases hv:n.fv=true
  ·have hf:firstF n=estF n.fe:=by unfold firstF;rw [if_pos hv]
   refine (tick_due H OK hn (n.tm.due now).1 hdd (node1 n now) _ rfl (nodB_ok _ h2) (node1 n now).b.take.1 (by rw [← h3]) (nodB_ok _ h4) h5 ((node1 n now).send now fine (firstF n)).2.1.1 ((node1 n now).send now fine (firstF n)).2.2 hv (by rw [← hf];exact send_take _ _ _ _ h3)).mono ?_
   rintro e w' ⟨v,B,rfl,hT,hN,hr,hB⟩
   exact ⟨v,rfl,hT,hN,row_zero hr,fun b hb=>hB b (row_base hr b hb)⟩
  ·have hv:n.fv=false:=by simpa using hv
   have hf:firstF n=fr0 1:=by unfold firstF;rw [if_neg (by rw [hv];decide)]
   refine (tick_lost H OK hn (n.tm.due now).1 hdd (node1 n now) _ rfl (nodB_ok _ h2) (node1 n now).b.take.1 (by rw [← h3]) (nodB_ok _ h4) h5 ((node1 n now).send now fine (firstF n)).2.1.1 ((node1 n now).send now fine (firstF n)).2.2 hv (by rw [← hf];exact send_take _ _ _ _ h3)).mono ?_
   rintro e w' ⟨v,B,rfl,hT,hN,hr,hB⟩
   exact ⟨v,rfl,hT,hN,row_zero hr,fun b hb=>hB b (row_base hr b hb)⟩
 ·have hd:(n.tm.due now).2=false:=by simpa using hd
  have hdd:n.tm.due now=((n.tm.due now).1,false):=by rw [← hd]
  have e:n.tick now fine=(node1 n now,[]):=by
   unfold NodeD.tick
   rw [if_neg (by rw [hn];decide)]
   simp only [hd,if_true]
   rfl
  rw [e]
  refine (tick_idle H OK hn (n.tm.due now).1 hdd).mono ?_
  rintro e w' ⟨rfl,hT,T',hN⟩
  exact ⟨_,rfl,hT,⟨_,hN.mono (fun k _ hk => .inl hk)⟩,⟨rfl,.inl ⟨rfl,rfl⟩⟩,fun b hb=>by cases hb⟩
def hearB (n:NodeD) (l:List Nat) (now:Int):Bool :=
 nodB n&&timeB now&&decide ((decE l).2=0)&&decide ((decE l).1.src≠n.id)&&decide (freshF (decE l).1.stamp now n.c.stale n.c.skew=0)&&nodeB (decE l).1.src&&serMay (decE l).1.boot&&serMay (decE l).1.seq&&inRg (decE l).1.stamp 0 1000000 &&
 (lk n.t.lives (decE l).1.src).isNone&&(lk n.t.ents (decE l).1.src).isNone&&decide ((n.t.ents.length:Int)<n.t.most)&&decide ((n.t.hear (decE l).1.src (decE l).1.boot (decE l).1.seq now).2=0) &&
 (decide ((decE l).1.kind=1)||decide ((decE l).1.kind=5)&&tabB (n.t.hear (decE l).1.src (decE l).1.boot (decE l).1.seq now).1 &&
  (match lk (n.t.hear (decE l).1.src (decE l).1.boot (decE l).1.seq now).1.ents (decE l).1.src with|some v=>! v.has|none=>false)&&decide ((atE (decE l).1.el (decE l).1.stamp now n.c.speed n.c.skew).2=0)&&(atE (decE l).1.el (decE l).1.stamp now n.c.speed n.c.skew).1.may)
theorem hearC_of (n:NodeD) (l:List Nat) (at_ now fine:Int) (h:hearB n l now=true):HearC n (n.hear l at_ now fine).1 l at_ now fine (n.hear l at_ now fine).2.1:=by
 unfold hearB at h
 obtain ⟨f,k,hd⟩:∃ f k,decE l=(f,k):=⟨_,_,rfl⟩
 unfold NodeD.hear
 rw [hd] at h ⊢
 obtain ⟨⟨t1,k1⟩,hr⟩:∃ r,n.t.hear f.src f.boot f.seq now=r:=⟨_,rfl⟩
 rw [hr] at h
 simp only [hr,Bool.and_eq_true,Bool.or_eq_true,decide_eq_true_eq,Option.isNone_iff_eq_none,inRg] at h ⊢
 obtain ⟨⟨⟨⟨⟨⟨⟨⟨⟨⟨⟨⟨⟨a0,a1⟩,a2⟩,a3⟩,a4⟩,a5⟩,a6⟩,a7⟩,a8⟩,a9⟩,a10⟩,a11⟩,a12⟩,a13⟩:=h
 subst a2;subst a12
 have OK:=nodB_ok n a0
 rw [if_neg (by rw [a1];decide)]
 simp only [ne_eq,not_true_eq_false,if_false,a3,a4]
 rcases a13 with a13|⟨⟨⟨⟨a13,a14⟩,a15⟩,a16⟩,a17⟩
 ·intro S w g L v H hS hv
  have e1:(({ n with t:=t1 } : NodeD).take f at_ now fine)=({ n with t:=t1 },[]):=by unfold NodeD.take;simp [a13]
  rw [e1]
  refine (nhear_c H OK hS v l f hd hv at_ now fine a1 a3 a4 a5 a6 a7 a8 a9 a10 a11 { n with t:=t1 } (by rw [hr];exact ntake_beacon S g _ f a13 at_ now fine)).mono ?_
  rintro e w' ⟨rfl,hT,hN⟩
  exact ⟨_,_,rfl,hT,hN,⟨rfl,.inl ⟨rfl,rfl⟩⟩,fun b hb=>by cases hb⟩
 ·intro S w g L v H hS hv
  obtain ⟨x,hx⟩:∃ x,lk t1.ents f.src=some x:=by
   cases hx:lk t1.ents f.src with
   | none=>rw [hx] at a15;cases a15
   | some x=>exact ⟨x,rfl⟩
  rw [hx] at a15
  have a15:x.has=false:=by simpa using a15
  obtain ⟨⟨x',y',a',b',d'⟩,k',he⟩:∃ e' k',atE f.el f.stamp now n.c.speed n.c.skew=(e',k'):=⟨_,_,rfl⟩
  rw [he] at a16 a17
  simp only at a16 a17
  subst a16
  have e1:(({ n with t:=t1 } : NodeD).take f at_ now fine)=({ n with t:=(t1.put f.src ⟨x',y',a',b',d'⟩ now).1 },[]):=by
   unfold NodeD.take
   rw [if_pos a13]
   unfold NodeD.put NodeD.at NodeD.track
   simp only [he,hx,a15]
   simp
  rw [e1]
  have hbd:0≤f.src∧f.src<64:=by simpa [nodeB] using a5
  refine (nhear_c H OK hS v l f hd hv at_ now fine a1 a3 a4 a5 a6 a7 a8 a9 a10 a11 { n with t:=(t1.put f.src ⟨x',y',a',b',d'⟩ now).1 } (by rw [hr];exact ntake_est S g { n with t:=t1 } (tabB_ok _ a14) f a13 at_ now fine (by omega) x hx a15 x' y' a' b' d' he a17 a1)).mono ?_
  rintro e w' ⟨rfl,hT,hN⟩
  exact ⟨_,_,rfl,hT,hN,⟨rfl,.inl ⟨rfl,rfl⟩⟩,fun b hb=>by cases hb⟩
theorem rt_top (z:Int) (h0:0≤z) (h:z≤281474976710656):0≤rtI z∧rtI z≤16777216:=by
 unfold rtI
 have h1:=(rt_spec z.toNat).1
 refine ⟨by omega,?_⟩
 rcases Nat.lt_or_ge 16777216 (rt z.toNat) with h2|h2
 ·have:=Nat.mul_le_mul (show 16777217≤rt z.toNat from h2) (show 16777217≤rt z.toNat from h2)
  omega
 ·omega
theorem distF_bd (p q:Int × Int):0≤distF p q∧distF p q≤16777216:=by
 unfold distF
 split
 ·rename_i h
  simp only [inRg,Bool.and_eq_true,decide_eq_true_eq] at h
  have s1:=sq_bx (p.1-q.1) 8388608 (by omega) (by omega)
  have s2:=sq_bx (p.2-q.2) 8388608 (by omega) (by omega)
  rw [← rtI_f _ (by omega)]
  exact rt_top _ (by omega) (by omega)
 ·decide
theorem flight_bd (T:TruD) (i j:Nat):0≤T.flight i j∧T.flight i j≤16777216:=by
 unfold TruD.flight
 split
 ·exact distF_bd _ _
 ·decide
def dataF (f:FrD):List Nat:=if mayF f then encL f else []
theorem dataF_len (f:FrD):(dataF f).length≤80:=by
 unfold dataF;split
 ·rw [enc_len];exact Nat.le_refl _
 ·exact Nat.zero_le _
theorem enc_c (f:FrD) (w:World):Calls Tryz.prog 131 #[frV f] w fun e w'=>∃ ao cap k,e = .returned (.tuple #[.slice ao (dataF f).length cap,.int .i64 k])∧RdS (fun b=>w.heap.size≤b) w' (.slice ao (dataF f).length cap) (dataF f)∧Below w.heap.size w w':=by
 cases hm:mayF f with
 | false =>
  have e0:dataF f = []:=by unfold dataF;rw [hm];rfl
  rw [e0]
  refine (encode_f f.kind f.src f.boot f.seq f.stamp f.dst f.t1 f.t2 f.who f.when f.x f.y f.a f.b f.d hm w).mono ?_
  rintro e w' ⟨rfl,hb⟩
  exact ⟨none,0,1,rfl,⟨(by intro c hc;cases hc),none,0,rfl,Nat.le_refl _,fun j hj=>absurd hj (Nat.not_lt_zero j)⟩,hb⟩
 | true =>
  have e0:dataF f=encL f:=by unfold dataF;rw [hm];rfl
  rw [e0]
  refine (encode_t f.kind f.src f.boot f.seq f.stamp f.dst f.t1 f.t2 f.who f.when f.x f.y f.a f.b f.d hm w).mono ?_
  rintro e w' ⟨⟨v,rfl,ho⟩,hb⟩
  have hr:=ho.rdS
  obtain ⟨ao,cap,rfl⟩:=hr.form
  exact ⟨ao,cap,0,rfl,hr.kept (Nat.le_refl _) (fun _ _ _=>rfl) (fun k _ h=>Nat.le_trans (Nat.le_succ _) h),hb⟩
/- what is kept of a fleet -/
structure FleetOK (F:FleetD):Prop where
 t:TruOK F.w
 p:F.w.p.length=F.n.length
 a:F.a.length≤512
 d:∀ m ∈ F.a,m.data.length≤1000
 lost:0≤F.lost∧F.lost≤1000000
 lo:F.on.length=F.n.length
def R12 (o:Nat):Prop:=o=1∨o=2
theorem r12_0:¬ R12 0:=by unfold R12;omega
def sendJ (F:FleetD) (i:Nat) (b:List Nat) (G:Int) (m:Nat):FleetD:=(List.range m).foldl (fun f j=>f.mail1 i j b G) F
theorem sendJ_succ (F:FleetD) (i:Nat) (b:List Nat) (G:Int) (m:Nat):sendJ F i b G (m+1)=(sendJ F i b G m).mail1 i m b G:=by unfold sendJ;rw [List.range_succ,List.foldl_append];rfl
theorem mail1_same (F:FleetD) (i j:Nat) (b:List Nat) (G:Int):(F.mail1 i j b G).n=F.n∧(F.mail1 i j b G).on=F.on∧(F.mail1 i j b G).w=F.w∧(F.mail1 i j b G).c=F.c:=by unfold FleetD.mail1;split <;> exact ⟨rfl,rfl,rfl,rfl⟩
theorem sendJ_same (F:FleetD) (i:Nat) (b:List Nat) (G:Int):∀ m,(sendJ F i b G m).n=F.n∧(sendJ F i b G m).on=F.on∧(sendJ F i b G m).w=F.w∧(sendJ F i b G m).c=F.c
 | 0=>⟨rfl,rfl,rfl,rfl⟩
 | m+1=>by
  obtain ⟨h1,h2,h3,h4⟩:=sendJ_same F i b G m
  obtain ⟨k1,k2,k3,k4⟩:=mail1_same (sendJ F i b G m) i m b G
  rw [sendJ_succ]
  exact ⟨k1.trans h1,k2.trans h2,k3.trans h3,k4.trans h4⟩
theorem mail1_ok {F:FleetD} (h:FleetOK F) (i j:Nat) (b:List Nat) (G:Int):FleetOK (F.mail1 i j b G):=by
 obtain ⟨k1,k2,k3,k4⟩:=mail1_same F i j b G
 refine ⟨by rw [k3];exact h.t,by rw [k1,k3];exact h.p,?_,?_,?_,by rw [k1,k2];exact h.lo⟩
 ·unfold FleetD.mail1;split
  ·exact h.a
  ·simp only [airPut];split
   ·exact h.a
   ·simp only [List.length_append,List.length_cons,List.length_nil];omega
 ·unfold FleetD.mail1;split
  ·exact h.d
  ·simp only [airPut];split
   ·exact h.d
   ·rename_i hn
    intro m hm
    simp only [List.mem_append,List.mem_singleton] at hm
    rcases hm with hm|rfl
    ·exact h.d m hm
    ·simp only at hn ⊢;omega
 ·have:=h.lost
  unfold FleetD.mail1;split
  ·exact h.lost
  ·simp only;split
   ·exact h.lost
   ·first|omega|(simp only;omega)
theorem sendJ_ok {F:FleetD} (h:FleetOK F) (i:Nat) (b:List Nat) (G:Int):∀ m,FleetOK (sendJ F i b G m)
 | 0=>h
 | m+1=>by rw [sendJ_succ];exact mail1_ok (sendJ_ok h i b G m) _ _ _ _
theorem send_succ (F:FleetD) (i:Nat) (l:List OutD) (G:Int) (k:Nat) (o:OutD) (h:l[k]? = some o):F.send i (l.take (k+1)) G=sendJ (F.send i (l.take k) G) i (dataF o.1) G (F.send i (l.take k) G).n.length:=by
 unfold FleetD.send
 rw [List.take_add_one,h,List.foldl_append]
 rfl
theorem send_same (F:FleetD) (i:Nat) (G:Int):∀ l:List OutD,(F.send i l G).n=F.n∧(F.send i l G).on=F.on∧(F.send i l G).w=F.w∧(F.send i l G).c=F.c:=by
 intro l
 induction l generalizing F with
 | nil=>exact ⟨rfl,rfl,rfl,rfl⟩
 | cons o r ih =>
  have h:=ih (sendJ F i (dataF o.1) G F.n.length)
  obtain ⟨k1,k2,k3,k4⟩:=sendJ_same F i (dataF o.1) G F.n.length
  exact ⟨h.1.trans k1,h.2.1.trans k2,h.2.2.1.trans k3,h.2.2.2.trans k4⟩
theorem send_ok' {F:FleetD} (h:FleetOK F) (i:Nat) (G:Int):∀ l:List OutD,FleetOK (F.send i l G):=by
 intro l
 induction l generalizing F with
 | nil=>exact h
 | cons o r ih=>exact ih (sendJ_ok h i (dataF o.1) G F.n.length)
def mailM (F:FleetD) (i j:Nat) (b:List Nat) (G:Int):MailD:=⟨j,b,F.w.fine j (G+F.w.flight i j),G+F.w.flight i j,false⟩
theorem mail1_eq (F:FleetD) (i j:Nat) (b:List Nat) (G:Int) (h1:j≠i) (h2:F.on.getD j false=true):F.mail1 i j b G = { F with a:=(airPut F.a (mailM F i j b G)).1,lost:=if (airPut F.a (mailM F i j b G)).2 then F.lost else min (F.lost+1) 1000000 }:=by
 unfold FleetD.mail1
 rw [if_neg (by rw [h2];simp [h1])]
 rfl
theorem mail1_no (F:FleetD) (i j:Nat) (b:List Nat) (G:Int) (h:j=i∨F.on.getD j false=false):F.mail1 i j b G=F:=by
 unfold FleetD.mail1
 rw [if_pos h]
def SndR (ow:Nat→Nat) (w:World) (g tw ta:Nat) (gs:List Nat) (nv bv:Value) (F:FleetD) (v:Value) (dt:List Nat) (wr:World):Prop :=
 ∃ owr,FleetIn owr wr g tw ta gs nv bv F∧FT R12 ow owr w wr∧RdS (fun k=>owr k=0) wr v dt
def SndO (ow:Nat→Nat) (w:World) (g tw ta:Nat) (gs:List Nat) (nv bv:Value) (F:FleetD) (wr:World):Prop :=
 ∃ owr,FleetIn owr wr g tw ta gs nv bv F∧FT R12 ow owr w wr
section
variable {ow:Nat→Nat} {w wr:World} {g tw ta:Nat} {gs:List Nat} {nv bv:Value} {F:FleetD} {v:Value} {dt:List Nat}
theorem SndR.below (h:SndR ow w g tw ta gs nv bv F v dt wr) {w1:World} (hb:Below wr.heap.size wr w1):SndR ow w g tw ta gs nv bv F v dt w1:=by
 obtain ⟨owr,h1,h2,h3⟩:=h
 have h4:FT R12 owr (ext owr wr.heap.size 0) wr w1:=FT.of_below hb 0
 exact ⟨_,h1.below hb 0,h2.trans h4,h4.rdS r12_0 h3⟩
theorem SndR.cells (h:SndR ow w g tw ta gs nv bv F v dt wr):wr.cell? ⟨g,0,none⟩=some (ptr tw)∧wr.cell? ⟨g,1,none⟩=some (ptr ta)∧wr.cell? ⟨g,13,none⟩=some nv∧wr.cell? ⟨g,14,none⟩=some bv∧wr.cell? ⟨g,15,none⟩=some (.int .i64 F.lost)∧(∀ o,wr.frozen? ⟨g,o,none⟩=false)∧g<wr.heap.size:=by
 obtain ⟨owr,h1,-⟩:=h
 exact ⟨h1.blk.cell rfl,h1.blk.cell rfl,h1.blk.cell rfl,h1.blk.cell rfl,h1.blk.cell rfl,h1.blk.frozen,h1.blk.lt⟩
theorem SndR.on (h:SndR ow w g tw ta gs nv bv F v dt wr) {j:Nat} {k:Bool} (hj:F.on[j]? = some k):∃ b cap,bv = .slice (some ⟨b,0,none⟩) F.on.length cap∧wr.cell? ⟨b,j,none⟩=some (.bool k):=by
 obtain ⟨owr,h1,-⟩:=h
 have:=h1.rb
 obtain ⟨b,cap,e,-,-,hc⟩:=row_cell this (k:=j) (x := .bool k) (by rw [List.getElem?_map,hj];rfl)
 exact ⟨b,cap,e,hc⟩
end
section
variable {ow:Nat→Nat} {w wr:World} {g tw ta:Nat} {gs:List Nat} {nv bv:Value} {F:FleetD} {v:Value} {dt:List Nat}
theorem SndO.enc (h:SndO ow w g tw ta gs nv bv F wr) {wa w1:World} (hb0:Below wr.heap.size wr wa) (hb:Below wa.heap.size wa w1) (hd:RdS (fun b=>wa.heap.size≤b) w1 v dt):SndR ow w g tw ta gs nv bv F v dt w1:=by
 obtain ⟨owr,h1,h2⟩:=h
 have hb':Below wr.heap.size wr w1:=hb0.trans (hb.mono hb0.size)
 exact ⟨ext owr wr.heap.size 0,h1.below hb' 0,h2.trans (FT.of_below hb' 0),hd.kept (Nat.le_refl _) (fun _ _ _=>rfl) (fun k _ hk=>by
  have:=hb0.size
  have hk:wa.heap.size≤k:=hk
  show ext owr wr.heap.size 0 k=0
  unfold ext;rw [if_neg (by omega)])⟩
theorem SndR.out (h:SndR ow w g tw ta gs nv bv F v dt wr):SndO ow w g tw ta gs nv bv F wr:=by
 obtain ⟨owr,h1,h2,-⟩:=h;exact ⟨owr,h1,h2⟩
theorem SndR.rd (h:SndR ow w g tw ta gs nv bv F v dt wr):RdB wr v dt:=by
 obtain ⟨owr,h1,h2,h3⟩:=h;exact h3.rd
theorem SndR.tru (h:SndR ow w g tw ta gs nv bv F v dt wr):∃ S pv mv,TruIn S wr tw F.w pv mv:=by
 obtain ⟨owr,h1,-⟩:=h
 obtain ⟨pv,mv,h2⟩:=h1.t
 exact ⟨_,pv,mv,h2⟩
theorem SndR.flight_c (h:SndR ow w g tw ta gs nv bv F v dt wr) (OK:FleetOK F) (i j:Nat) (hi:i<F.n.length) (hj:j<F.n.length):Calls Tryz.prog 132 #[ptr tw,.int .i64 i,.int .i64 j] wr fun e w'=>e = .returned (.int .i64 (F.w.flight i j))∧Below wr.heap.size wr w':=by
 obtain ⟨S,pv,mv,h2⟩:=h.tru
 exact tFlight_c h2 OK.t i j (by rw [OK.p];exact hi) (by rw [OK.p];exact hj)
theorem SndR.fine_c (h:SndR ow w g tw ta gs nv bv F v dt wr) (OK:FleetOK F) (i:Nat) (hi:i<F.n.length) (G:Int) (hG:0≤G∧G≤70368744177664):Calls Tryz.prog 69 #[ptr tw,.int .i64 i,.int .i64 G] wr fun e w'=>e = .returned (.int .i64 (F.w.fine i G))∧Below wr.heap.size wr w':=by
 obtain ⟨S,pv,mv,h2⟩:=h.tru
 exact tFine_c h2 OK.t i (by rw [OK.p];exact hi) G hG
theorem SndR.put_c (h:SndR ow w g tw ta gs nv bv F v dt wr) (OK:FleetOK F) (m:MailD) (hm:m.data=dt) (hl:dt.length≤1000000):Calls Tryz.prog 133 #[ptr ta,mailV m v] wr fun e w'=>e = .returned (.bool (airPut F.a m).2)∧SndR ow w g tw ta gs nv bv { F with a:=(airPut F.a m).1 } v dt w':=by
 have hr:=h.rd
 obtain ⟨owr,h1,h2,h3⟩:=h
 refine (airPut_c h1.a (Nat.le_trans OK.a (by decide)) m v (by rw [hm];exact hr) (by rw [hm];exact hl)).mono ?_
 rintro e w' ⟨rfl,ht,ha⟩
 have hf:FT R12 owr (ext owr wr.heap.size 2) wr w':=FT.of_turns (.inr rfl) ht 2
 exact ⟨rfl,_,h1.turn_air ht ha,h2.trans hf,hf.rdS r12_0 h3⟩
theorem SndR.lost (h:SndR ow w g tw ta gs nv bv F v dt wr) (x:Int):SndR ow w g tw ta gs nv bv { F with lost:=x } v dt (wr.setCell ⟨g,15,none⟩ (.int .i64 x)):=by
 obtain ⟨owr,h1,h2,h3⟩:=h
 have O:OnlyAt g wr (wr.setCell ⟨g,15,none⟩ (.int .i64 x)):=OnlyAt.refl.setCell 15 _
 have ht:Turns (fun k=>owr k=1) wr (wr.setCell ⟨g,15,none⟩ (.int .i64 x)):=Turns.of_only O (.inl h1.og)
 have hT:TurnsT (fun _=>True) [73] false wr _:=TurnsT.of_only O h1.blk (List.mem_singleton.2 rfl) trivial
 have hf:FT R12 owr (ext owr wr.heap.size 1) wr _:=FT.of_turns (.inl rfl) ht 1
 exact ⟨_,h1.turn_self ht (nv':=nv) (bv':=bv) (lost:=x) (on':=F.on) ((h1.blk.setCell_same 15 _).of_eq rfl) (row_turns h1.rn hT (by decide)) (fun b e => .inl (h1.sn b e)) (row_turns h1.rb hT (by decide)) (fun b e => .inl (h1.sb b e)),h2.trans hf,hf.rdS r12_0 h3⟩
end
theorem fsend_c {ow:Nat→Nat} {w:World} {g tw ta:Nat} {gs:List Nat} {nv bv:Value} {F:FleetD} (H:FleetIn ow w g tw ta gs nv bv F) (OK:FleetOK F) (i:Nat) (hi:i<F.n.length) (lv:Value) (l:List OutD) (hr:w.ownsRow 0 195 16 lv l.length (l.flatMap outL)) (hs:∀ b,lv.ownBlock=some b→¬ R12 (ow b)) (hl:l.length≤1000000) (G:Int) (hG:0≤G∧G≤35184372088832) :
  Calls Tryz.prog 66 #[ptr g,.int .i64 i,lv,.int .i64 G] w fun e w'=>e = .returned (.tuple #[])∧SndO ow w g tw ta gs nv bv (F.send i l G) w':=by
 obtain ⟨ao,cap,rfl⟩:=row_form hr
 obtain ⟨an,cn,rfl⟩:=row_form H.rn
 obtain ⟨ab,cb,rfl⟩:=row_form H.rb
 have hln:=H.ln
 have hnl:F.n.length≤64:=by rw [← OK.p];exact OK.t.len
 have H0:Hid (SndO ow w g tw ta gs (.slice an gs.length cn) (.slice ab F.on.length cb) F w):=⟨ow,H,FT.refl⟩
 have HR:Hid (∀ k wr o,l[k]? = some o→SndO ow w g tw ta gs (.slice an gs.length cn) (.slice ab F.on.length cb) (F.send i (l.take k) G) wr→∃ b capx,(.slice ao l.length cap:Value) = .slice (some ⟨b,0,none⟩) l.length capx∧b<wr.heap.size∧wr.row? b (k*16) 16=some (outL o).toArray):=by
  intro k wr o ho ⟨owr,h1,h2⟩
  obtain ⟨b,capx,e1,e2,e3,-⟩:=row_cells (f:=outL) (s:=16) (fun _=>rfl) (by decide) (h2.row hr hs).1 ho rfl
  exact ⟨b,capx,e1,e2,e3⟩
 have HE:Hid (∀ f w1,Calls Tryz.prog 131 #[frV f] w1 fun e w'=>∃ ao cap k,e = .returned (.tuple #[.slice ao (dataF f).length cap,.int .i64 k])∧RdS (fun b=>w1.heap.size≤b) w' (.slice ao (dataF f).length cap) (dataF f)∧Below w1.heap.size w1 w'):=fun f w1=>enc_c f w1
 have HOK:=Lib.hid OK
 have HLN:=Lib.hid hln
 have HLO:=Lib.hid OK.lo
 clear H OK hr hs hln
 go_enter Tryz.func66,Tryz.ntmps66
 go_wp2_with fail
 go_loopw [16] (fun t16 wr=>∃ k:Nat,k≤l.length∧t16 = .int .i64 k∧Hid (SndO ow w g tw ta gs (.slice an gs.length cn) (.slice ab F.on.length cb) (F.send i (l.take k) G) wr)) (fun t16 _=>l.length-(intOf t16).toNat)
 case atStart=>exact ⟨0,by omega,rfl,H0⟩
 case round =>
  obtain ⟨k,hk,rfl,HK⟩:=hrel
  by_cases hlt:k<l.length
  ·obtain ⟨o,ho⟩:∃ o,l[k]? = some o:=⟨_,List.getElem?_eq_getElem hlt⟩
   obtain ⟨b,capx,hlb,hbl,hrw⟩:=HR.out k wr o ho HK.out
   injection hlb with hb1 _ hb2
   subst hb1;subst hb2
   have k1:(k:Int)<(l.length:Int):=by omega
   have k2:(0:Int)≤(k:Int):=by omega
   have HO:=Lib.hid ho
   obtain ⟨⟨fk,fs,fb,fq,fst,fd,ft1,ft2,fw,fwn,fx,fy,fa,fbb,fdd⟩,fi⟩:=o
   have r16:wr.row? b (k*16) 16=some #[.int .i64 fk,.int .i64 fs,.int .i64 fb,.int .i64 fq,.int .i64 fst,.int .i64 fd,.int .i64 ft1,.int .i64 ft2,.int .i64 fw,.int .i64 fwn,.int .i64 fx,.int .i64 fy,.int .i64 fa,.int .i64 fbb,.int .i64 fdd,.int .i64 fi]:=hrw
   clear hrw ho hlt
   go_wp2_with fail
   refine (HE.out ⟨fk,fs,fb,fq,fst,fd,ft1,ft2,fw,fwn,fx,fy,fa,fbb,fdd⟩ _).mono ?_;rintro e w1 ⟨ad,cd,ke,rfl,hd,hb1⟩
   obtain ⟨dt,hdt⟩:∃ dt,dataF ⟨fk,fs,fb,fq,fst,fd,ft1,ft2,fw,fwn,fx,fy,fa,fbb,fdd⟩=dt:=⟨_,rfl⟩
   have hdl:dt.length≤80:=by rw [← hdt];exact dataF_len _
   rw [hdt] at hd ⊢
   have ES:=send_succ F i l G k _ HO.out
   simp only at ES
   rw [hdt] at ES
   have ES:=Lib.hid ES
   obtain ⟨Fk,hFk⟩:∃ Fk,F.send i (l.take k) G=Fk:=⟨_,rfl⟩
   have OKk:Hid (FleetOK Fk):=by rw [← hFk];exact send_ok' HOK.out i G _
   have hsame:=send_same F i G (l.take k)
   rw [hFk] at HK ES hsame
   have H1:Hid (SndR ow w g tw ta gs (.slice an gs.length cn) (.slice ab F.on.length cb) Fk (.slice ad dt.length cd) dt w1):=HK.out.enc ((Below.refl _ _).alloc (Nat.le_refl _) _) hb1 hd
   have HSM:=Lib.hid hsame
   clear hd hb1 r16 HK hdt hFk hsame
   obtain ⟨q0,q1,q13,q14,q15,f1,y1⟩:=H1.out.cells
   go_wp2_with fail
   clear q0 q1 q13 q14 q15 f1 y1
   go_loopw [31] (fun t31 wr=>∃ j:Nat,j≤gs.length∧t31 = .int .i64 j∧Hid (SndR ow w g tw ta gs (.slice an gs.length cn) (.slice ab F.on.length cb) (sendJ Fk i dt G j) (.slice ad dt.length cd) dt wr)) (fun t31 _=>gs.length-(intOf t31).toNat)
   case atStart=>exact ⟨0,by omega,rfl,H1⟩
   case round =>
    obtain ⟨j,hj,rfl,HJ⟩:=hrel
    by_cases hjl:j<gs.length
    ·have j1:(j:Int)<(gs.length:Int):=by omega
     have j2:(0:Int)≤(j:Int):=by omega
     have hjn:j<F.n.length:=by have:=HLN.out;omega
     obtain ⟨s1,s2,s3,s4⟩:=sendJ_same Fk i dt G j
     have OKj:Hid (FleetOK (sendJ Fk i dt G j)):=sendJ_ok OKk.out i dt G j
     have EJ:=Lib.hid (sendJ_succ Fk i dt G j)
     obtain ⟨FJ,hFJ⟩:∃ FJ,sendJ Fk i dt G j=FJ:=⟨_,rfl⟩
     rw [hFJ] at HJ s1 s2 s3 s4 OKj EJ
     have on1:FJ.on=F.on:=s2.trans HSM.out.2.1
     have nn1:FJ.n=F.n:=s1.trans HSM.out.1
     have wn1:FJ.w=F.w:=s3.trans HSM.out.2.2.1
     clear hFJ s1 s2 s3 s4
     obtain ⟨q0,q1,q13,q14,q15,f1,y1⟩:=HJ.out.cells
     by_cases hji:j=i
     ·have EN:Hid (FJ.mail1 i j dt G=FJ):=mail1_no _ _ _ _ _ (.inl hji)
      subst hji
      clear on1 nn1 wn1
      go_wp2_with fail
      go_roundw
      case rel =>
       refine ⟨j+1,by omega,by go_num,?_⟩
       show SndR _ _ _ _ _ _ _ _ _ _ _ _
       rw [EJ.out,EN.out];exact HJ.out
      case measure=>exact (by first|(simp [intOf];done)|(simp [intOf];omega))
     ·obtain ⟨bb,hb⟩:∃ b,F.on[j]? = some b:=⟨_,List.getElem?_eq_getElem (by have:=HLO.out;omega)⟩
      obtain ⟨ob,co',e2,cob⟩:=HJ.out.on (j:=j) (k:=bb) (by rw [on1];exact hb)
      rw [on1] at e2
      injection e2 with e2 _ _;subst e2
      have jb:(j:Int)<(F.on.length:Int):=by have:=HLO.out;omega
      have hji':¬ (j:Int)=(i:Int):=by omega
      cases bb with
      | false =>
       have EN:Hid (FJ.mail1 i j dt G=FJ):=mail1_no _ _ _ _ _ (.inr (by rw [on1,List.getD_eq_getElem?_getD,hb];rfl))
       clear on1 nn1 wn1 hb hji
       go_wp2_with fail
       go_roundw
       case rel =>
        refine ⟨j+1,by omega,by go_num,?_⟩
        show SndR _ _ _ _ _ _ _ _ _ _ _ _
        rw [EJ.out,EN.out];exact HJ.out
       case measure=>exact (by first|(simp [intOf];done)|(simp [intOf];omega))
      | true =>
       have EN:=Lib.hid (mail1_eq FJ i j dt G hji (by rw [on1,List.getD_eq_getElem?_getD,hb];rfl))
       have fb:=flight_bd F.w i j
       obtain ⟨fl,hfl⟩:∃ fl,F.w.flight i j=fl:=⟨_,rfl⟩
       rw [hfl] at fb
       have hG1:=hG.1
       have hG2:=hG.2
       have w1':IntKind.i64.wrap (G+fl)=G+fl:=IntWalk.i64_in _ (by omega)
       have EM:Hid (mailM FJ i j dt G=⟨j,dt,F.w.fine j (G+fl),G+fl,false⟩):=by show _=_;unfold mailM;rw [wn1,hfl]
       have HFL:Hid (∀ w1,Below wr.heap.size wr w1→Calls Tryz.prog 132 #[ptr tw,.int .i64 i,.int .i64 j] w1 fun e w'=>e = .returned (.int .i64 fl)∧Below w1.heap.size w1 w'):=fun w1 hb=>by
        have:=(HJ.out.below hb).flight_c OKj.out i j (by rw [nn1];exact hi) (by rw [nn1];exact hjn)
        rw [wn1,hfl] at this;exact this
       have HFI:Hid (∀ w1,Below wr.heap.size wr w1→Calls Tryz.prog 69 #[ptr tw,.int .i64 j,.int .i64 (G+fl)] w1 fun e w'=>e = .returned (.int .i64 (F.w.fine j (G+fl)))∧Below w1.heap.size w1 w'):=fun w1 hb=>by
        have:=(HJ.out.below hb).fine_c OKj.out j (by rw [nn1];exact hjn) (G+fl) (by omega)
        rw [wn1] at this;exact this
       obtain ⟨fi2,hfi⟩:∃ z,F.w.fine j (G+fl)=z:=⟨_,rfl⟩
       rw [hfi] at HFI EM
       obtain ⟨⟨a2,kb⟩,hpu⟩:∃ r,airPut FJ.a (mailM FJ i j dt G)=r:=⟨_,rfl⟩
       have HPU:Hid (∀ w1,Below wr.heap.size wr w1→Calls Tryz.prog 133 #[ptr ta,.agg #[.int .i64 j,.slice ad dt.length cd,.int .i64 fi2,.int .i64 (G+fl),.bool false]] w1 fun e w'=>e = .returned (.bool kb)∧Hid (SndR ow w g tw ta gs (.slice an gs.length cn) (.slice (some ⟨ob,0,none⟩) F.on.length cb) { FJ with a:=a2 } (.slice ad dt.length cd) dt w')):=fun w1 hb=>by
        have:=(HJ.out.below hb).put_c OKj.out (mailM FJ i j dt G) rfl (by omega)
        rw [hpu,EM.out] at this
        exact this
       have EN2:Hid (FJ.mail1 i j dt G = { FJ with a:=a2,lost:=if kb then FJ.lost else min (FJ.lost+1) 1000000 }):=by show _=_;rw [EN.out,hpu]
       have lb:=OKj.out.lost
       obtain ⟨lb1,lb2⟩:=lb
       have w2':IntKind.i64.wrap (FJ.lost+1)=FJ.lost+1:=IntWalk.i64_in _ (by omega)
       clear on1 nn1 wn1 hb hji EN hpu hfl fb hfi
       go_wp2_with (go_at_call 132;refine (HFL.out _ below_byR).mono ?_;rintro e w3 ⟨rfl,hb3⟩;have z_w3:=hb3.size;(try simp at z_w3);obtain ⟨y_w3_g,c_w3_g,f_w3_g,r_w3_g,t_w3_g,p_w3_g⟩:=bq hb3 (g))
       go_region_held3 (fun w'=>w'.cell? ⟨g,0,none⟩=some (ptr tw)∧w'.cell? ⟨g,1,none⟩=some (ptr ta)) (go_simp)
        (first
        | (go_at_call 69;refine (HFI.out _ below_byR).mono ?_;rintro e w4 ⟨rfl,hb4⟩;have z_w4:=hb4.size;(try simp at z_w4);obtain ⟨y_w4_g,c_w4_g,f_w4_g,r_w4_g,t_w4_g,p_w4_g⟩:=bq hb4 (g))
        | (go_at_call 133;refine (HPU.out _ below_byR).mono ?_;rintro e w5 ⟨rfl,HP⟩;obtain ⟨p0,p1,p13,p14,p15,pf,py⟩:=HP.out.cells))
       all_goals cases kb
       all_goals go_wp2_with fail
       all_goals go_roundw
       all_goals first
        | exact (by first|(simp [intOf];done)|(simp [intOf];omega))
        | (refine ⟨j+1,by omega,by go_num,?_⟩;show SndR _ _ _ _ _ _ _ _ _ _ _ _;rw [EJ.out,EN2.out];first|exact HP.out|exact HP.out.lost _)
    ·have hjg:j=gs.length:=by omega
     subst hjg
     have j1:¬ ((gs.length:Int)<(gs.length:Int)):=by omega
     go_wp2_with fail
     go_roundw
     case rel =>
      refine ⟨k+1,by omega,by go_num,?_⟩
      show SndO _ _ _ _ _ _ _ _ _ _
      rw [ES.out,HSM.out.1,← HLN.out];exact HJ.out.out
     case measure=>exact (by first|(simp [intOf];done)|(simp [intOf];omega))
  ·have hkl:k=l.length:=by omega
   subst hkl
   have k1:¬ ((l.length:Int)<(l.length:Int)):=by omega
   go_wp2_with fail
   refine bodyPost_end (results_none rfl _ _ _) rfl ?_
   have:=HK.out
   rw [List.take_length] at this
   exact ⟨rfl,this⟩
def Rn (o:Nat):Prop:=o≠0
theorem rn_0:¬ Rn 0:=fun h=>h rfl
def FlO (ow:Nat→Nat) (w:World) (g tw ta:Nat) (gs:List Nat) (nv bv:Value) (F:FleetD) (wr:World):Prop :=
 ∃ owr,FleetIn owr wr g tw ta gs nv bv F∧FT Rn ow owr w wr
def FlV (ow:Nat→Nat) (w:World) (g tw ta:Nat) (gs:List Nat) (nv bv:Value) (F:FleetD) (o:List OutD) (v:Value) (wr:World):Prop :=
 ∃ owr,FleetIn owr wr g tw ta gs nv bv F∧FT Rn ow owr w wr∧wr.ownsRow 0 195 16 v o.length (o.flatMap outL)∧∀ b,v.ownBlock=some b→¬ R12 (owr b)
section
variable {ow:Nat→Nat} {w wr:World} {g tw ta:Nat} {gs:List Nat} {nv bv:Value} {F:FleetD}
theorem FlO.below (h:FlO ow w g tw ta gs nv bv F wr) {w1:World} (hb:Below wr.heap.size wr w1):FlO ow w g tw ta gs nv bv F w1:=by
 obtain ⟨owr,h1,h2⟩:=h
 exact ⟨_,h1.below hb 0,h2.trans (FT.of_below hb 0)⟩
theorem FlO.cells (h:FlO ow w g tw ta gs nv bv F wr):wr.cell? ⟨g,0,none⟩=some (ptr tw)∧wr.cell? ⟨g,1,none⟩=some (ptr ta)∧wr.cell? ⟨g,13,none⟩=some nv∧wr.cell? ⟨g,14,none⟩=some bv∧wr.cell? ⟨g,15,none⟩=some (.int .i64 F.lost)∧(∀ o,wr.frozen? ⟨g,o,none⟩=false)∧g<wr.heap.size:=by
 obtain ⟨owr,h1,-⟩:=h
 exact ⟨h1.blk.cell rfl,h1.blk.cell rfl,h1.blk.cell rfl,h1.blk.cell rfl,h1.blk.cell rfl,h1.blk.frozen,h1.blk.lt⟩
theorem FlO.on (h:FlO ow w g tw ta gs nv bv F wr) {j:Nat} {k:Bool} (hj:F.on[j]? = some k):∃ b cap,bv = .slice (some ⟨b,0,none⟩) F.on.length cap∧b<wr.heap.size∧wr.cell? ⟨b,j,none⟩=some (.bool k):=by
 obtain ⟨owr,h1,-⟩:=h
 obtain ⟨b,cap,e,h2,-,hc⟩:=row_cell h1.rb (k:=j) (x := .bool k) (by rw [List.getElem?_map,hj];rfl)
 exact ⟨b,cap,e,h2,hc⟩
theorem FlO.node (h:FlO ow w g tw ta gs nv bv F wr) {j:Nat} (hj:j<F.n.length):∃ b cap,nv = .slice (some ⟨b,0,none⟩) gs.length cap∧b<wr.heap.size∧wr.cell? ⟨b,j,none⟩=some (ptr (gs.getD j 0)):=by
 obtain ⟨owr,h1,-⟩:=h
 have hl:=h1.ln
 obtain ⟨b,cap,e,h2,-,hc⟩:=row_cell h1.rn (k:=j) (x:=ptr (gs.getD j 0)) (by rw [List.getElem?_map,List.getD_eq_getElem?_getD,List.getElem?_eq_getElem (by omega)];rfl)
 exact ⟨b,cap,e,h2,hc⟩
theorem FlO.tru (h:FlO ow w g tw ta gs nv bv F wr):∃ S pv mv,TruIn S wr tw F.w pv mv:=by
 obtain ⟨owr,h1,-⟩:=h
 obtain ⟨pv,mv,h2⟩:=h1.t
 exact ⟨_,pv,mv,h2⟩
theorem FlO.now_c (h:FlO ow w g tw ta gs nv bv F wr) (OK:FleetOK F) (i:Nat) (hi:i<F.n.length):Calls Tryz.prog 68 #[ptr tw,.int .i64 i] wr fun e w'=>e = .returned (.int .i64 (F.w.now i))∧Below wr.heap.size wr w':=by
 obtain ⟨S,pv,mv,h2⟩:=h.tru
 exact tNow_c h2 OK.t i (by rw [OK.p];exact hi)
theorem FlO.fine_c (h:FlO ow w g tw ta gs nv bv F wr) (OK:FleetOK F) (i:Nat) (hi:i<F.n.length) (G:Int) (hG:0≤G∧G≤70368744177664):Calls Tryz.prog 69 #[ptr tw,.int .i64 i,.int .i64 G] wr fun e w'=>e = .returned (.int .i64 (F.w.fine i G))∧Below wr.heap.size wr w':=by
 obtain ⟨S,pv,mv,h2⟩:=h.tru
 exact tFine_c h2 OK.t i (by rw [OK.p];exact hi) G hG
theorem FlO.step_c (h:FlO ow w g tw ta gs nv bv F wr) (OK:FleetOK F):Calls Tryz.prog 65 #[ptr tw] wr fun e w'=>e = .returned (.int .i64 F.w.step.2)∧FlO ow w g tw ta gs nv bv { F with w:=F.w.step.1 } w':=by
 obtain ⟨owr,h1,h2⟩:=h
 obtain ⟨pv,mv,h3⟩:=h1.t
 refine (tStep_c h3 OK.t).mono ?_
 rintro e w' ⟨rfl,ho,h4⟩
 have ht:Turns (fun k=>owr k=3) wr w':=Turns.of_only ho (.inl h3.sg)
 exact ⟨rfl,_,h1.turn_tru ht ⟨pv,mv,h4.kept (fun _ _ _=>rfl) (fun k _ hk => .inl hk)⟩,h2.trans (FT.of_turns (by unfold Rn;decide) ht 3)⟩
theorem FlO.ttick_c (h:FlO ow w g tw ta gs nv bv F wr) (OK:FleetOK F) (ht:F.w.time<750000):Calls Tryz.prog 64 #[ptr tw] wr fun e w'=>e = .returned (.bool true)∧FlO ow w g tw ta gs nv bv { F with w:=F.w.tick.1 } w':=by
 obtain ⟨owr,h1,h2⟩:=h
 obtain ⟨pv,mv,h3⟩:=h1.t
 refine (tTick_c h3 OK.t ht).mono ?_
 rintro e w' ⟨rfl,ht,h4⟩
 exact ⟨rfl,_,h1.turn_tru ht h4,h2.trans (FT.of_turns (by unfold Rn;decide) ht 3)⟩
theorem FlO.node_tick (h:FlO ow w g tw ta gs nv bv F wr) (i:Nat) (n n2:NodeD) (now fine:Int) (o:List OutD) (hn:F.n[i]? = some n) (HT:TickC n n2 now fine o) :
  Calls Tryz.prog 67 #[ptr (gs.getD i 0),.int .i64 now,.int .i64 fine] wr fun e w'=>∃ v,e = .returned v∧FlV ow w g tw ta gs nv bv (F.setN i n2) o v w':=by
 obtain ⟨owr,h1,h2⟩:=h
 obtain ⟨L,h3⟩:=h1.n i n hn
 refine (HT _ _ _ _ h3).mono ?_
 rintro e w' ⟨v,rfl,ht,hN,hr,hs⟩
 refine ⟨v,rfl,_,h1.turn_node i (List.getElem?_eq_some_iff.1 hn).1 ht hN,h2.trans (FT.of_turns (by unfold Rn;omega) ht (i+4)),hr,fun b hb=>?_⟩
 have e1:=ext_sn (hs b hb)
 rw [e1];unfold R12;omega
theorem FlO.node_hear (h:FlO ow w g tw ta gs nv bv F wr) (i:Nat) (n n2:NodeD) (l:List Nat) (at_ now fine:Int) (o:List OutD) (hn:F.n[i]? = some n) (HT:HearC n n2 l at_ now fine o) (v:Value) (hv:RdB wr v l) :
  Calls Tryz.prog 146 #[ptr (gs.getD i 0),v,.int .i64 at_,.int .i64 now,.int .i64 fine] wr fun e w'=>∃ vo k,e = .returned (.tuple #[vo,.int .i64 k])∧FlV ow w g tw ta gs nv bv (F.setN i n2) o vo w':=by
 obtain ⟨owr,h1,h2⟩:=h
 obtain ⟨L,h3⟩:=h1.n i n hn
 refine (HT (Sn (fun k=>owr k=i+4) wr) _ _ _ _ (h3.mono (fun k _ hk => .inl hk)) (fun k hk => .inr hk) hv).mono ?_
 rintro e w' ⟨vo,k,rfl,ht,hN,hr,hs⟩
 have ht':Turns (fun k=>owr k=i+4) wr w':=ht.mono (fun k hk hn=>by
  rcases hn with hn|hn
  ·exact hn
  ·omega)
 refine ⟨vo,k,rfl,_,h1.turn_node i (List.getElem?_eq_some_iff.1 hn).1 ht' hN,h2.trans (FT.of_turns (by unfold Rn;omega) ht' (i+4)),hr,fun b hb=>?_⟩
 have e1:=ext_sn (hs b hb)
 rw [e1];unfold R12;omega
theorem FlV.fl {o:List OutD} {v:Value} (h:FlV ow w g tw ta gs nv bv F o v wr):FlO ow w g tw ta gs nv bv F wr:=by
 obtain ⟨owr,h1,h2,-⟩:=h;exact ⟨owr,h1,h2⟩
theorem FlV.send_c {o:List OutD} {v:Value} (h:FlV ow w g tw ta gs nv bv F o v wr) (OK:FleetOK F) (i:Nat) (hi:i<F.n.length) (ho:o.length≤1000000) (G:Int) (hG:0≤G∧G≤35184372088832) :
  Calls Tryz.prog 66 #[ptr g,.int .i64 i,v,.int .i64 G] wr fun e w'=>e = .returned (.tuple #[])∧FlO ow w g tw ta gs nv bv (F.send i o G) w':=by
 obtain ⟨owr,h1,h2,h3,h4⟩:=h
 refine (fsend_c h1 OK i hi v o h3 h4 ho G hG).mono ?_
 rintro e w' ⟨rfl,ow2,h5,h6⟩
 exact ⟨rfl,ow2,h5,h2.trans (h6.mono (fun o ho=>by unfold Rn;unfold R12 at ho;omega))⟩
end
/- rounds of a tick -/
def tickJ (F:FleetD) (G:Int) (k:Nat):FleetD:=(List.range k).foldl (fun f i=>f.tick1 i G) F
theorem tickJ_succ (F:FleetD) (G:Int) (k:Nat):tickJ F G (k+1)=(tickJ F G k).tick1 k G:=by unfold tickJ;rw [List.range_succ,List.foldl_append];rfl
theorem setN_ok {F:FleetD} (h:FleetOK F) (i:Nat) (n:NodeD):FleetOK (F.setN i n) :=
 ⟨h.t,by show _=(F.n.set i n).length;rw [List.length_set];exact h.p,h.a,h.d,h.lost,by show _=(F.n.set i n).length;rw [List.length_set];exact h.lo⟩
theorem tick1_same (F:FleetD) (i:Nat) (G:Int):(F.tick1 i G).on=F.on∧(F.tick1 i G).w=F.w∧(F.tick1 i G).c=F.c∧(F.tick1 i G).n.length=F.n.length∧∀ j,i≠j→(F.tick1 i G).n[j]? = F.n[j]?:=by
 unfold FleetD.tick1
 split
 ·exact ⟨rfl,rfl,rfl,rfl,fun _ _=>rfl⟩
 ·rename_i n hn
  split
  ·obtain ⟨k1,k2,k3,k4⟩:=send_same (F.setN i (n.tick (F.w.now i) (F.w.fine i G)).1) i G (n.tick (F.w.now i) (F.w.fine i G)).2
   rw [k1,k2,k3,k4]
   refine ⟨rfl,rfl,rfl,?_,fun j hj=>?_⟩
   ·show (F.n.set i _).length=_;rw [List.length_set]
   ·show (F.n.set i _)[j]? = _;rw [List.getElem?_set,if_neg hj]
  ·exact ⟨rfl,rfl,rfl,rfl,fun _ _=>rfl⟩
theorem tickJ_same (F:FleetD) (G:Int):∀ k,(tickJ F G k).on=F.on∧(tickJ F G k).w=F.w∧(tickJ F G k).c=F.c∧(tickJ F G k).n.length=F.n.length∧∀ j,k≤j→(tickJ F G k).n[j]? = F.n[j]?
 | 0=>⟨rfl,rfl,rfl,rfl,fun _ _=>rfl⟩
 | k+1=>by
  obtain ⟨a1,a2,a3,a4,a5⟩:=tickJ_same F G k
  obtain ⟨b1,b2,b3,b4,b5⟩:=tick1_same (tickJ F G k) k G
  rw [tickJ_succ]
  exact ⟨b1.trans a1,b2.trans a2,b3.trans a3,b4.trans a4,fun j hj=>(b5 j (by omega)).trans (a5 j (by omega))⟩
theorem tick1_ok {F:FleetD} (h:FleetOK F) (i:Nat) (G:Int):FleetOK (F.tick1 i G):=by
 unfold FleetD.tick1
 split
 ·exact h
 ·split
  ·exact send_ok' (setN_ok h i _) i G _
  ·exact h
theorem tickJ_ok {F:FleetD} (h:FleetOK F) (G:Int):∀ k,FleetOK (tickJ F G k)
 | 0=>h
 | k+1=>by rw [tickJ_succ];exact tick1_ok (tickJ_ok h G k) _ _
theorem truTick_ok {T:TruD} (h:TruOK T) (ht:T.time<750000):TruOK T.tick.1:=by
 unfold TruD.tick
 rw [if_neg (by omega)]
 have:=h.time
 exact ⟨h.c,h.n,h.p,by simp only;omega,⟨Int.le_refl 0,by show (0:Int)≤16777215;decide⟩⟩
theorem truStep_ok {T:TruD} (h:TruOK T):TruOK T.step.1:=by
 unfold TruD.step
 have:=h.steps
 exact ⟨h.c,h.n,h.p,h.time,by simp only;omega⟩
theorem truStep_bd {T:TruD} (h:TruOK T):0≤T.step.2∧T.step.2≤35184372088832:=by
 unfold TruD.step
 have:=h.steps
 have:=h.time
 simp only;omega
section
variable {ow:Nat→Nat} {w wr:World} {g tw ta:Nat} {gs:List Nat} {nv bv:Value} {F:FleetD}
theorem FlV.tick1_c (OK:FleetOK F) (i:Nat) (n:NodeD) (hn:F.n[i]? = some n) (hon:F.on.getD i false=true) (G:Int) (hG:0≤G∧G≤35184372088832) (hl:(n.tick (F.w.now i) (F.w.fine i G)).2.length≤1000000)
  {v:Value} (hv:FlV ow w g tw ta gs nv bv (F.setN i (n.tick (F.w.now i) (F.w.fine i G)).1) (n.tick (F.w.now i) (F.w.fine i G)).2 v wr) :
  Calls Tryz.prog 66 #[ptr g,.int .i64 i,v,.int .i64 G] wr fun e w'=>e = .returned (.tuple #[])∧FlO ow w g tw ta gs nv bv (F.tick1 i G) w':=by
 have e:F.tick1 i G=(F.setN i (n.tick (F.w.now i) (F.w.fine i G)).1).send i (n.tick (F.w.now i) (F.w.fine i G)).2 G:=by unfold FleetD.tick1;rw [hn];simp only [hon,if_true]
 rw [e]
 exact hv.send_c (setN_ok OK i _) i (by show i<(F.n.set i _).length;rw [List.length_set];exact (List.getElem?_eq_some_iff.1 hn).1) hl G hG
end
def ellAt (i:Nat):El:=if i<3 then (ballE (1000*((i:Int)%8)) (1000*((i:Int)/8)) 10).1 else .zero
def fltK (c:Cfg) (N k:Nat):FleetD:=⟨.new c,[],c,(List.range k).map (fun (i:Nat)=>NodeD.new c i 0 (ellAt i)),List.replicate k true++List.replicate (N-k) false,0⟩
theorem fltK_done (c:Cfg) (N:Nat) (h:c.nodes=(N:Int)):fltK c N N = .new c:=by
 unfold fltK FleetD.new ellAt
 rw [h]
 simp
theorem fltK_len (c:Cfg) (N k:Nat):(fltK c N k).n.length=k:=by simp [fltK]
theorem fltK_succ (c:Cfg) (N k:Nat) (h:k<N):({ fltK c N k with n:=(fltK c N k).n ++ [NodeD.new c k 0 (ellAt k)],on:=(fltK c N k).on.set k true } : FleetD)=fltK c N (k+1):=by
 unfold fltK
 simp only [List.range_succ,List.map_append,List.map_cons,List.map_nil,FleetD.mk.injEq,true_and,and_true]
 rw [List.set_append_right _ _ (by simp)]
 simp only [List.length_replicate,Nat.sub_self]
 obtain ⟨m,hm⟩:∃ m,N-k=m+1:=⟨N-k-1,by omega⟩
 rw [hm,show N-(k+1)=m by omega,List.replicate_succ,List.set_cons_zero,List.replicate_succ',List.append_assoc]
 rfl
theorem ellAt_may (i:Nat) (h:i<64):(ellAt i).a≠0∧(ellAt i).may=true∨ellAt i = .zero:=by
 unfold ellAt
 split
 ·left
  obtain ⟨x,hx⟩:∃ x,1000*((i:Int)%8)=x:=⟨_,rfl⟩
  obtain ⟨y,hy⟩:∃ y,1000*((i:Int)/8)=y:=⟨_,rfl⟩
  have hm:mayPt x y=true:=by
   unfold mayPt
   simp
   omega
  have hb:ballE x y 10=(⟨x,y,10*10,0,10*10⟩,0):=by unfold ballE;rw [if_pos ⟨hm,by decide,by decide⟩]
  rw [hx,hy,hb]
  exact ⟨by show (10*10:Int)≠0;decide,ball_may x y 10 hm (by decide) (by decide)⟩
 ·right;rfl
theorem nodeNew_at (c:Cfg) (hc:c.may=true) (i:Nat) (hi:i<64) (w:World) :
  Calls Tryz.prog 56 #[cfgV c,.int .i64 i,.int .i64 0,elC (ellAt i).x (ellAt i).y (ellAt i).a (ellAt i).b (ellAt i).d] w fun e w'=>∃ g L,e = .returned (ptr g)∧NodeAt (fun k=>w.heap.size≤k) w' g L (.new c i 0 (ellAt i))∧Below w.heap.size w w':=by
 rcases ellAt_may i hi with h|h
 ·exact nodeNew_c c hc i 0 (by omega) (by decide) _ _ _ _ _ h w
 ·rw [h];exact nodeNew_z c hc i 0 (by omega) (by decide) w
theorem infoPtr:(Tryz.prog.info? 43).map (fun i=>(i.zero,i.size,i.bytes))=some (some (.pointer none),1,8):=by kernel_rfl
theorem ptr_one (g:Nat):∀ u ∈ [ptr g],u.oneCell'=true:=by intro u hu;simp at hu;subst hu;rfl
end Go.Proofs.YtechbdnhalmobaaGreatDoor
