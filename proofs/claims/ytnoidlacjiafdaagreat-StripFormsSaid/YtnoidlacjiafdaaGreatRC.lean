/- The walks of the document's Of, Neg, Add. The walks of the document's Mul, Sub, Shift. The walk of the document's Shift. -/
import Derived.Test.YtnoidlacjiafdaaGreatRB
import Derived.Test.YtnoidlacjiafdaaGreatBY
namespace Go.Proofs.YtnoidlacjiafdaaGreat
set_option maxRecDepth 100000
set_option maxHeartbeats 16000000
set_option linter.unusedSimpArgs false
set_option linter.unusedVariables false
open Go.RowKit
def aG (x:WI):aU:={ holds:=fun w v=>ap w v x,stable:=fun h hb=>h.below hb }
def gRd (xs:List Nat):aU:={ holds:=fun w v=>Rd w v xs,stable:=fun h hb=>h.below hb }
theorem ap.opened {w:World} {v:Value} {x:WI} (h:ap w v x):∃ A cap,v = .agg #[.bool x.ng,.bool x.ov,.slice A (dg x.sz).length cap]∧Rd w (.slice A (dg x.sz).length cap) (dg x.sz):=by
 obtain⟨s,rfl,hr⟩:=h;obtain⟨A,cap,rfl⟩:=hr.form;exact⟨A,cap,rfl,hr⟩
theorem ap.mk {w:World} {x:WI} {s:Value} (h:Rd w s (dg x.sz)):ap w (.agg #[.bool x.ng,.bool x.ov,s]) x:=⟨s,rfl,h⟩
theorem Rd.set {w:World} {s:Value} {xs:List Nat} (h:Rd w s xs) {g k:Nat} {u:Value} (hc:w.cell? ⟨g,k,none⟩=some u) (hu:∀ n,u ≠ .int .u32 n) (v:Value):Rd (w.setCell ⟨g,k,none⟩ v) s xs:=by
 obtain⟨hd,h|⟨b,o,cap,hs,h1,h2,h3,h4⟩⟩:=h
 ·exact⟨hd,.inl h⟩
 ·refine⟨hd,.inr ⟨b,o,cap,hs,h1,h2,by simpa using h3,fun i hi=>?_⟩⟩;rw[World.cell?_setCell_other]
  ·exact h4 i hi
  ·intro e;have:=h4 i hi;rw[← e,hc] at this;exact hu _ (Option.some.inj this)
theorem Rd.set3 {w:World} {s:Value} {xs:List Nat} (h:Rd w s xs) {g:Nat} {x y:Bool} {A:Option Addr} {n m:Nat} (c0:w.cell? ⟨g,0,none⟩=some (.bool x)) (c1:w.cell? ⟨g,1,none⟩=some (.bool y)) (c2:w.cell? ⟨g,2,none⟩=some (.slice A n m)) (v0 v1 v2:Value) :
  Rd (((w.setCell ⟨g,0,none⟩ v0).setCell ⟨g,1,none⟩ v1).setCell ⟨g,2,none⟩ v2) s xs :=
by
 have d1:(w.setCell ⟨g,0,none⟩ v0).cell? ⟨g,1,none⟩=some (.bool y):=(World.cell?_setCell_other _ _ _ _ (by simp)).trans c1
 have d2:((w.setCell ⟨g,0,none⟩ v0).setCell ⟨g,1,none⟩ v1).cell? ⟨g,2,none⟩=some (.slice A n m):=(World.cell?_setCell_other _ _ _ _ (by simp)).trans ((World.cell?_setCell_other _ _ _ _ (by simp)).trans c2)
 exact((h.set c0 (fun n e=>by cases e) v0).set d1 (fun n e=>by cases e) v1).set d2 (fun n e=>by cases e) v2
theorem Rd.res {w:World} {s:Value} {xs:List Nat} (h:Rd w s xs) {g:Nat} (c0:w.cell? ⟨g,0,none⟩=some (.bool false)) (c1:w.cell? ⟨g,1,none⟩=some (.bool false)) (c2:w.cell? ⟨g,2,none⟩=some (.slice none 0 0)) (v0 v1 v2:Value) :
  Rd (((w.setCell ⟨g,0,none⟩ v0).setCell ⟨g,1,none⟩ v1).setCell ⟨g,2,none⟩ v2) s xs:=h.set3 c0 c1 c2 v0 v1 v2
theorem ap.pk (w:World):ap w (.agg #[.bool false,.bool true,.slice none 0 0]) WI.over:=by
 refine⟨.slice none 0 0,rfl,?_⟩;show Rd _ _ (dg 0);rw[bp];exact Rd.nil _
theorem am {w w0:World} (h:Below w.heap.size w w0) {fr:Nat→Option aU} {g:Nat→Value} {N:List Nat} (p:Inh w0 fr g N):Below w.heap.size w p.w :=
 ⟨p.low.os.trans h.os,p.low.tape.trans h.tape,p.low.output.trans h.output,Nat.le_trans h.size p.low.size,fun k hk=>by rw[p.low.block k (Nat.lt_of_lt_of_le hk h.size)];exact h.block k hk⟩
theorem eA (neg:Bool) (s:Value) (xs:List Nat) (w:World) (x:WI) (hx:Hid (WI.of (sgn neg (nv xs))=x)) (h:Rd w s xs) :
  Calls Tryz.prog 81 #[.bool neg,s] w fun e w'=>(∃ v,e = .returned v∧ap w' v x)∧Below w.heap.size w w':=by
 rw[← hx.out];exact pD neg s xs w h
theorem ai {P:Program} {f:aU} {w:World} {r:Result Next} {fn:FuncId} {args:Array Value} (hr:r = .ok (.enter fn args) w)
  (h:Calls P fn args w fun e w''=>(∃ v,e = .returned v∧f.holds w'' v)∧Below w.heap.size w w'') (hf:∀ v,f.own v=none:=by intro _;rfl):dD P f w r:=by
 subst hr;exact⟨rfl,h.mono fun e w' ⟨⟨v,he,hv⟩,hb⟩=>⟨v,he,hv,hb,fun b hb'=>by rw[hf v] at hb';cases hb'⟩⟩
theorem Au (x:Int):sgn (decide (x<0)) x.natAbs=x:=by unfold sgn;by_cases h:x<0 <;> simp [h] <;> omega
theorem DI (a b:Nat):nv [a,b]=a+4294967296*b:=by show a+4294967296*(b+4294967296*0)=_;omega
theorem Rd.two {w:World} {g:Nat} {a b:Nat} (ha:a<4294967296) (hb:b<4294967296) (hg:g<w.heap.size) (c0:w.cell? ⟨g,0,none⟩=some (.int .u32 (a:Int))) (c1:w.cell? ⟨g,1,none⟩=some (.int .u32 (b:Int))):Rd w (.slice (some ⟨g,0,none⟩) 2 2) [a,b]:=by
 refine⟨fun d hd=>?_,.inr ⟨g,0,2,rfl,by simp,by simp,hg,fun i hi=>?_⟩⟩
 ·simp at hd;rcases hd with rfl|rfl <;> assumption
 ·rcases i with _|_|i
  ·exact c0
  ·exact c1
  ·exact absurd hi (by simp)
theorem gc (n:Int) (h1 : -9223372036854775808≤n) (h2:n≤9223372036854775807) (w:World) :
  Calls Tryz.prog 40 #[.int .i64 n] w fun e w'=>(∃ v,e = .returned v∧ap w' v (WI.of n))∧Below w.heap.size w w':=by
 obtain⟨N,hN⟩:∃ N,N=n.natAbs:=⟨_,rfl⟩;obtain⟨a,ha⟩:∃ a,a=N%4294967296:=⟨_,rfl⟩;obtain⟨b,hb⟩:∃ b,b=N/4294967296:=⟨_,rfl⟩;have hal:a<4294967296:=by omega
 have hbl:b<4294967296:=by omega
 have HV:Hid (WI.of (sgn (decide (n<0)) (nv [a,b]))=WI.of n):=by
  show _=_;rw[DI,show a+4294967296*b=n.natAbs by omega,Au]
 by_cases hneg:n<0
 ·have e1:IntKind.u64.wrap n=18446744073709551616-(N:Int):=by rw[IntKind.wrap_u64];omega
  have e2:IntKind.u64.wrap (-(18446744073709551616-(N:Int)))=(N:Int):=by rw[IntKind.wrap_u64];omega
  have e3:IntKind.u32.wrap (N:Int)=(a:Int):=by rw[IntKind.wrap_u32];omega
  have e4:IntKind.u32.wrap ((N:Int)/4294967296)=(b:Int):=by rw[IntKind.wrap_u32];omega
  have e5:decide (n<0)=true:=by simp[hneg]
  rw[e5] at HV;clear ha hb hN h1 h2;go_enter Tryz.func40,Tryz.ntmps40;go_wp2_with fail;refine(pD _ _ [a,b] _ (Rd.two hal hbl (by first|omega|(simp;done)|(simp;omega)|fail) (by go_simp) (by go_simp))).mono ?_;rintro e w1 ⟨⟨v,rfl,hv⟩,hb1⟩;have z_w1:=hb1.size;(try simp at z_w1);have Kw1aa:=bq hb1 (w.heap.size);rw[HV.out] at hv;obtain⟨A,cap,rfl,hs⟩:=hv.opened;have HS:=Lh hs;clear hs hv;go_wp2_with fail;refine ak 3 #[.bool (WI.of n).ng,.bool (WI.of n).ov,.slice A (dg (WI.of n).sz).length cap] rfl rfl rfl Tryz.underlying52 rfl (by kernel_rfl) rc3 ⟨⟨_,rfl,ap.mk (HS.out.res (by go_simp) (by go_simp) (by go_simp) _ _ _)⟩,ae⟩
 ·have e1:IntKind.u64.wrap n=(N:Int):=by rw[IntKind.wrap_u64];omega
  have e3:IntKind.u32.wrap (N:Int)=(a:Int):=by rw[IntKind.wrap_u32];omega
  have e4:IntKind.u32.wrap ((N:Int)/4294967296)=(b:Int):=by rw[IntKind.wrap_u32];omega
  have e5:decide (n<0)=false:=by simp[hneg]
  rw[e5] at HV;clear ha hb hN h1 h2;go_enter Tryz.func40,Tryz.ntmps40;go_wp2_with fail;refine(pD _ _ [a,b] _ (Rd.two hal hbl (by first|omega|(simp;done)|(simp;omega)|fail) (by go_simp) (by go_simp))).mono ?_;rintro e w1 ⟨⟨v,rfl,hv⟩,hb1⟩;have z_w1:=hb1.size;(try simp at z_w1);have Kw1aa:=bq hb1 (w.heap.size);rw[HV.out] at hv;obtain⟨A,cap,rfl,hs⟩:=hv.opened;have HS:=Lh hs;clear hs hv;go_wp2_with fail;refine ak 3 #[.bool (WI.of n).ng,.bool (WI.of n).ov,.slice A (dg (WI.of n).sz).length cap] rfl rfl rfl Tryz.underlying52 rfl (by kernel_rfl) rc3 ⟨⟨_,rfl,ap.mk (HS.out.res (by go_simp) (by go_simp) (by go_simp) _ _ _)⟩,ae⟩
theorem uc (v:Value) (x:WI) (w:World) (hv:ap w v x) :
  Calls Tryz.prog 60 #[v] w fun e w'=>(∃ v,e = .returned v∧ap w' v x.neg)∧Below w.heap.size w w':=by
 obtain⟨A,cap,rfl,hs⟩:=hv.opened;have HS:=Lh hs;clear hs hv;cases hx:x.ov with
 | true =>
  rw[WI.qG x hx];go_enter Tryz.func60,Tryz.ntmps60;go_wp2_with fail;refine ak 3 #[.bool x.ng,.bool true,.slice A (dg x.sz).length cap] rfl rfl rfl Tryz.underlying52 rfl (by kernel_rfl) rc3 ⟨⟨_,rfl,by rw[← hx];exact ap.mk (HS.out.below ae)⟩,ae⟩
 | false =>
  rw[WI.qF hx];obtain⟨x2,hx2⟩:∃ y,y=WI.of (sgn (!x.ng) x.sz):=⟨_,rfl⟩;rw[← hx2];have HV:Hid (WI.of (sgn (!x.ng) (nv (dg x.sz)))=x2):=by rw[aY,hx2];exact rfl
  clear hx2;go_enter Tryz.func60,Tryz.ntmps60;go_wp2_with fail;refine(pD _ _ _ _ (HS.out.below ae)).mono ?_;rintro e w1 ⟨⟨v,rfl,hv⟩,hb1⟩;have z_w1:=hb1.size;(try simp at z_w1);have Kw1aa:=bq hb1 (w.heap.size);have Kw1ab:=bq hb1 (w.heap.size+1);rw[HV.out] at hv;obtain⟨A2,cap2,rfl,hs2⟩:=hv.opened;have HS2:=Lh hs2;clear hs2 hv;go_wp2_with fail;refine ak 3 #[.bool x2.ng,.bool x2.ov,.slice A2 (dg x2.sz).length cap2] rfl rfl rfl Tryz.underlying52 rfl (by kernel_rfl) rc3 ⟨⟨_,rfl,ap.mk (HS2.out.res (by go_simp) (by go_simp) (by go_simp) _ _ _)⟩,ae⟩
theorem dF (N k:Nat) (h:N<4294967296^k):(dg N).length≤k:=by
 induction k generalizing N with
 | zero=>rw[show N=0 by simpa using h,bp];exact Nat.le_refl _
 | succ k ih =>
  by_cases h0:N=0
  ·rw[h0,bp];exact Nat.zero_le _
  ·rw[fj N h0,List.length_cons];refine Nat.succ_le_succ (ih _ ?_);rw[Nat.div_lt_iff_lt_mul (by decide),← Nat.pow_succ];exact h
theorem fP (x:WI):(dg x.sz).length≤32:=by
 have key:∀ k,k=32→x.sz<4294967296^k:=fun k hk=>by
  rw[show(4294967296:Nat)=2^32 from rfl,← Nat.pow_mul];exact Nat.lt_of_lt_of_le x.jX (mz _ (by omega))
 exact dF _ _ (key 32 rfl)
theorem jm {N M:Nat} (h:M≤N):(0:Int)≤cmpD N M:=by
 rcases Nat.lt_or_ge M N with h1|h1
 ·rw[pL h1];decide
 ·rw[show N=M by omega,uL];decide
theorem gG {N M:Nat} (h:¬ M≤N):¬ (0:Int)≤cmpD N M:=by rw [ln (by omega)];decide
theorem bV {N M:Nat} (h:N≤M):(dg N).length≤(dg M).length:=by
 rcases Nat.lt_or_ge (dg M).length (dg N).length with h1|h1
 ·have:=jO _ _ h1;omega
 ·exact h1
theorem Gb (a b:Value) (x y:WI) (w:World) (ha:ap w a x) (hb:ap w b y) :
  Calls Tryz.prog 43 #[a,b] w fun e w'=>(∃ v,e = .returned v∧ap w' v (x.add y))∧Below w.heap.size w w':=by
 obtain⟨A,cap,rfl,hs⟩:=ha.opened;obtain⟨B,cbp,rfl,ht⟩:=hb.opened;have HS:=Lh hs;have HT:=Lh ht;clear hs ht ha hb;cases hx:x.ov with
 | true =>
  rw[WI.add_over x y (.inl hx)];go_enter Tryz.func43,Tryz.ntmps43;go_wp2_with fail;refine ak 3 #[.bool false,.bool true,.slice none 0 0] rfl rfl rfl Tryz.underlying52 rfl (by kernel_rfl) rc3 ⟨⟨_,rfl,ap.pk _⟩,ae⟩
 | false =>
  cases hy:y.ov with
  | true =>
   rw[WI.add_over x y (.inr hy)];go_enter Tryz.func43,Tryz.ntmps43;go_wp2_with fail;refine ak 3 #[.bool false,.bool true,.slice none 0 0] rfl rfl rfl Tryz.underlying52 rfl (by kernel_rfl) rc3 ⟨⟨_,rfl,ap.pk _⟩,ae⟩
  | false =>
   rw[WI.ju hx hy];have LX:=Lh (fP x);have LY:=Lh (fP y);by_cases hn:x.ng=y.ng
   ·obtain⟨n,hn1⟩:∃ n,x.ng=n:=⟨_,rfl⟩;rw[hn1] at hn;rw[← hn,hn1,iU];obtain⟨x2,hx2⟩:∃ z,z=WI.of (sgn n (x.sz+y.sz)):=⟨_,rfl⟩;rw[← hx2];have HV:Hid (WI.of (sgn n (nv (dg (nv (dg x.sz)+nv (dg y.sz)))))=x2):=by rw[aY,aY,aY,hx2];exact rfl
    clear hn hn1 hx2;go_enter Tryz.func43,Tryz.ntmps43;go_wp2_with fail;have HB:Hid (Below w.heap.size w (((w.alloc (Obj.cells #[.bool n,.bool false,.slice A (dg x.sz).length cap] 52)).alloc (Obj.cells #[.bool n,.bool false,.slice B (dg y.sz).length cbp] 52)).alloc (Obj.cells #[.bool false,.bool false,.slice none 0 0] 52)).drew):=ae;have c0:=@ao _ _ _ (show(((w.alloc (Obj.cells #[.bool n,.bool false,.slice A (dg x.sz).length cap] 52)).alloc (Obj.cells #[.bool n,.bool false,.slice B (dg y.sz).length cbp] 52)).alloc (Obj.cells #[.bool false,.bool false,.slice none 0 0] 52)).cell? ⟨w.heap.size,0,none⟩=some (.bool n) from(by go_simp));have c1:=@ao _ _ _ (show(((w.alloc (Obj.cells #[.bool n,.bool false,.slice A (dg x.sz).length cap] 52)).alloc (Obj.cells #[.bool n,.bool false,.slice B (dg y.sz).length cbp] 52)).alloc (Obj.cells #[.bool false,.bool false,.slice none 0 0] 52)).cell? ⟨w.heap.size,2,none⟩=some (.slice A (dg x.sz).length cap) from(by go_simp));have c2:=@ao _ _ _ (show(((w.alloc (Obj.cells #[.bool n,.bool false,.slice A (dg x.sz).length cap] 52)).alloc (Obj.cells #[.bool n,.bool false,.slice B (dg y.sz).length cbp] 52)).alloc (Obj.cells #[.bool false,.bool false,.slice none 0 0] 52)).cell? ⟨w.heap.size+1,0,none⟩=some (.bool n) from(by go_simp));have c3:=@ao _ _ _ (show(((w.alloc (Obj.cells #[.bool n,.bool false,.slice A (dg x.sz).length cap] 52)).alloc (Obj.cells #[.bool n,.bool false,.slice B (dg y.sz).length cbp] 52)).alloc (Obj.cells #[.bool false,.bool false,.slice none 0 0] 52)).cell? ⟨w.heap.size+1,2,none⟩=some (.slice B (dg y.sz).length cbp) from(by go_simp));refine av 8 (fun k=>match k with|6=>some (gRd (dg (nv (dg x.sz)+nv (dg y.sz))))|7=>some (aG x2)|_=>none) (fun k=>match k with|7=>[6]|_=>[]) (by kernel_rfl) (by kernel_rfl) ?_;apply Eb;apply Eb;apply Eb;apply Eb;apply Eb;apply Eb;apply Ef;apply Ef;refine⟨[],fun gg NN hN=>?_⟩;simp only[List.append_eq,List.cons_append,List.nil_append,List.take_succ_cons,List.take_zero,List.drop_succ_cons,List.drop_zero];(repeat (first|(refine aj rfl ?_;go_big_quiet_step (first|exact rfl|(fail));refine wpQuiet_nil ⟨?hd,?_⟩;(case hd=>exact rfl))|(refine ag _ (by rfl) (by rfl) ?hex ?_;(case hex=>(intro px;first|(refine ai (fn:=103) (by go_simp;rfl) ?_;exact jB _ _ _ _ _ (HS.out.below (am HB.out px)) (HT.out.below (am HB.out px)) (Nat.le_trans LX.out (by decide)) (Nat.le_trans LY.out (by decide)))|(refine ai (fn:=81) (by go_simp;rfl) ?_;exact eA _ _ _ _ _ HV (px.has 6 (hN 7 6 (by simp)) _ rfl))));simp only[Act.put,List.setIfInBounds_toArray,List.set_cons_succ,List.set_cons_zero])));refine aM ?_;intro w1 hb1' hh;have hb1:Below (((w.alloc (Obj.cells #[.bool n,.bool false,.slice A (dg x.sz).length cap] 52)).alloc (Obj.cells #[.bool n,.bool false,.slice B (dg y.sz).length cbp] 52)).alloc (Obj.cells #[.bool false,.bool false,.slice none 0 0] 52)).heap.size (((w.alloc (Obj.cells #[.bool n,.bool false,.slice A (dg x.sz).length cap] 52)).alloc (Obj.cells #[.bool n,.bool false,.slice B (dg y.sz).length cbp] 52)).alloc (Obj.cells #[.bool false,.bool false,.slice none 0 0] 52)) w1:=hb1';obtain⟨A2,cap2,e7,hs2⟩:=(show ap w1 (gg 7) x2 from hh 7 _ (by decide) rfl).opened;have HS2:=Lh hs2;rw[e7];clear hb1' hh hs2 e7 c0 c1 c2 c3;have z_w1:=hb1.size;(try simp at z_w1);have K_w1_0:=bq3 hb1 (w.heap.size);go_wp2_with fail;refine ak 3 #[.bool x2.ng,.bool x2.ov,.slice A2 (dg x2.sz).length cap2] rfl rfl rfl Tryz.underlying52 rfl (by kernel_rfl) rc3 ⟨⟨_,rfl,ap.mk (HS2.out.res (by go_simp) (by go_simp) (by go_simp) _ _ _)⟩,ae⟩
   ·have hd:decide (x.ng=y.ng)=false:=decide_eq_false hn;have hd2:(x.ng==y.ng)=false:=by simpa using hn
    by_cases hle:y.sz≤x.sz
    ·rw[lW _ _ _ _ hn hle];obtain⟨x2,hx2⟩:∃ z,z=WI.of (sgn x.ng (x.sz-y.sz)):=⟨_,rfl⟩;rw[← hx2];have HV:Hid (WI.of (sgn x.ng (nv (dg (nv (dg x.sz)-nv (dg y.sz)))))=x2):=by rw[aY,aY,aY,hx2];exact rfl
     have HLE:Hid (nv (dg y.sz)≤nv (dg x.sz)):=by rw[aY,aY];exact hle
     have HLL:Hid ((dg y.sz).length≤(dg x.sz).length):=bV (by have:=HLE.out;rwa [aY,aY] at this);have hc :  (0:Int)≤cmpD x.sz y.sz:=jm hle;clear hx2 hle;go_enter Tryz.func43,Tryz.ntmps43;go_wp2_with fail;refine(kC _ _ _ _ _ (HS.out.below ae) (HT.out.below ae)).mono ?_;rintro e w0 ⟨rfl,hb0⟩;have z_w0:=hb0.size;(try simp at z_w0);have K_w0_0:=bq3 hb0 (w.heap.size);go_wp2_with fail;have HB:Hid (Below w.heap.size w w0.drew):=ae;have c0:=@ao _ _ _ (show(w0).cell? ⟨w.heap.size,0,none⟩=some (.bool x.ng) from(by go_simp));have c1:=@ao _ _ _ (show(w0).cell? ⟨w.heap.size,2,none⟩=some (.slice A (dg x.sz).length cap) from(by go_simp));have c2:=@ao _ _ _ (show(w0).cell? ⟨w.heap.size+1,0,none⟩=some (.bool y.ng) from(by go_simp));have c3:=@ao _ _ _ (show(w0).cell? ⟨w.heap.size+1,2,none⟩=some (.slice B (dg y.sz).length cbp) from(by go_simp));refine av 8 (fun k=>match k with|6=>some (gRd (dg (nv (dg x.sz)-nv (dg y.sz))))|7=>some (aG x2)|_=>none) (fun k=>match k with|7=>[6]|_=>[]) (by kernel_rfl) (by kernel_rfl) ?_;apply Eb;apply Eb;apply Eb;apply Eb;apply Eb;apply Eb;apply Ef;apply Ef;refine⟨[],fun gg NN hN=>?_⟩;simp only[List.append_eq,List.cons_append,List.nil_append,List.take_succ_cons,List.take_zero,List.drop_succ_cons,List.drop_zero];(repeat (first|(refine aj rfl ?_;go_big_quiet_step (first|exact rfl|(fail));refine wpQuiet_nil ⟨?hd,?_⟩;(case hd=>exact rfl))|(refine ag _ (by rfl) (by rfl) ?hex ?_;(case hex=>(intro px;first|(refine ai (fn:=105) (by go_simp;rfl) ?_;exact kZ _ _ _ _ _ (HS.out.below (am HB.out px)) (HT.out.below (am HB.out px)) (Nat.le_trans LX.out (by decide)) HLL.out HLE.out)|(refine ai (fn:=81) (by go_simp;rfl) ?_;exact eA _ _ _ _ _ HV (px.has 6 (hN 7 6 (by simp)) _ rfl))));simp only[Act.put,List.setIfInBounds_toArray,List.set_cons_succ,List.set_cons_zero])));refine aM ?_;intro w1 hb1' hh;have hb1:Below w0.heap.size w0 w1:=hb1';obtain⟨A2,cap2,e7,hs2⟩:=(show ap w1 (gg 7) x2 from hh 7 _ (by decide) rfl).opened;have HS2:=Lh hs2;rw[e7];clear hb1' hh hs2 e7 c0 c1 c2 c3;have z_w1:=hb1.size;(try simp at z_w1);have K_w1_0:=bq3 hb1 (w.heap.size);go_wp2_with fail;refine ak 3 #[.bool x2.ng,.bool x2.ov,.slice A2 (dg x2.sz).length cap2] rfl rfl rfl Tryz.underlying52 rfl (by kernel_rfl) rc3 ⟨⟨_,rfl,ap.mk (HS2.out.res (by go_simp) (by go_simp) (by go_simp) _ _ _)⟩,ae⟩
    ·rw[lT _ _ _ _ hn (by omega)];obtain⟨x2,hx2⟩:∃ z,z=WI.of (sgn y.ng (y.sz-x.sz)):=⟨_,rfl⟩;rw[← hx2];have HV:Hid (WI.of (sgn y.ng (nv (dg (nv (dg y.sz)-nv (dg x.sz)))))=x2):=by rw[aY,aY,aY,hx2];exact rfl
     have HLE:Hid (nv (dg x.sz)≤nv (dg y.sz)):=by rw[aY,aY];exact(Nat.le_of_lt (Nat.lt_of_not_le hle))
     have HLL:Hid ((dg x.sz).length≤(dg y.sz).length):=bV (by have:=HLE.out;rwa [aY,aY] at this);have hc:¬ (0:Int)≤cmpD x.sz y.sz:=gG hle;clear hx2 hle;go_enter Tryz.func43,Tryz.ntmps43;go_wp2_with fail;refine(kC _ _ _ _ _ (HS.out.below ae) (HT.out.below ae)).mono ?_;rintro e w0 ⟨rfl,hb0⟩;have z_w0:=hb0.size;(try simp at z_w0);have K_w0_0:=bq3 hb0 (w.heap.size);go_wp2_with fail;have HB:Hid (Below w.heap.size w w0.drew):=ae;have c0:=@ao _ _ _ (show(w0).cell? ⟨w.heap.size,0,none⟩=some (.bool x.ng) from(by go_simp));have c1:=@ao _ _ _ (show(w0).cell? ⟨w.heap.size,2,none⟩=some (.slice A (dg x.sz).length cap) from(by go_simp));have c2:=@ao _ _ _ (show(w0).cell? ⟨w.heap.size+1,0,none⟩=some (.bool y.ng) from(by go_simp));have c3:=@ao _ _ _ (show(w0).cell? ⟨w.heap.size+1,2,none⟩=some (.slice B (dg y.sz).length cbp) from(by go_simp));refine av 8 (fun k=>match k with|6=>some (gRd (dg (nv (dg y.sz)-nv (dg x.sz))))|7=>some (aG x2)|_=>none) (fun k=>match k with|7=>[6]|_=>[]) (by kernel_rfl) (by kernel_rfl) ?_;apply Eb;apply Eb;apply Eb;apply Eb;apply Eb;apply Eb;apply Ef;apply Ef;refine⟨[],fun gg NN hN=>?_⟩;simp only[List.append_eq,List.cons_append,List.nil_append,List.take_succ_cons,List.take_zero,List.drop_succ_cons,List.drop_zero];(repeat (first|(refine aj rfl ?_;go_big_quiet_step (first|exact rfl|(fail));refine wpQuiet_nil ⟨?hd,?_⟩;(case hd=>exact rfl))|(refine ag _ (by rfl) (by rfl) ?hex ?_;(case hex=>(intro px;first|(refine ai (fn:=105) (by go_simp;rfl) ?_;exact kZ _ _ _ _ _ (HT.out.below (am HB.out px)) (HS.out.below (am HB.out px)) (Nat.le_trans LY.out (by decide)) HLL.out HLE.out)|(refine ai (fn:=81) (by go_simp;rfl) ?_;exact eA _ _ _ _ _ HV (px.has 6 (hN 7 6 (by simp)) _ rfl))));simp only[Act.put,List.setIfInBounds_toArray,List.set_cons_succ,List.set_cons_zero])));refine aM ?_;intro w1 hb1' hh;have hb1:Below w0.heap.size w0 w1:=hb1';obtain⟨A2,cap2,e7,hs2⟩:=(show ap w1 (gg 7) x2 from hh 7 _ (by decide) rfl).opened;have HS2:=Lh hs2;rw[e7];clear hb1' hh hs2 e7 c0 c1 c2 c3;have z_w1:=hb1.size;(try simp at z_w1);have K_w1_0:=bq3 hb1 (w.heap.size);go_wp2_with fail;refine ak 3 #[.bool x2.ng,.bool x2.ov,.slice A2 (dg x2.sz).length cap2] rfl rfl rfl Tryz.underlying52 rfl (by kernel_rfl) rc3 ⟨⟨_,rfl,ap.mk (HS2.out.res (by go_simp) (by go_simp) (by go_simp) _ _ _)⟩,ae⟩
theorem mt (a b:Value) (x y:WI) (w:World) (ha:ap w a x) (hb:ap w b y) :
  Calls Tryz.prog 28 #[a,b] w fun e w'=>(∃ v,e = .returned v∧ap w' v (x.mul y))∧Below w.heap.size w w':=by
 obtain⟨A,cap,rfl,hs⟩:=ha.opened;obtain⟨B,cbp,rfl,ht⟩:=hb.opened;have HS:=Lh hs;have HT:=Lh ht;clear hs ht ha hb;cases hx:x.ov with
 | true =>
  rw[WI.mul_over x y (.inl hx)];go_enter Tryz.func28,Tryz.ntmps28;go_wp2_with fail;refine ak 3 #[.bool false,.bool true,.slice none 0 0] rfl rfl rfl Tryz.underlying52 rfl (by kernel_rfl) rc3 ⟨⟨_,rfl,ap.pk _⟩,ae⟩
 | false =>
  cases hy:y.ov with
  | true =>
   rw[WI.mul_over x y (.inr hy)];go_enter Tryz.func28,Tryz.ntmps28;go_wp2_with fail;refine ak 3 #[.bool false,.bool true,.slice none 0 0] rfl rfl rfl Tryz.underlying52 rfl (by kernel_rfl) rc3 ⟨⟨_,rfl,ap.pk _⟩,ae⟩
  | false =>
   rw[WI.qI hx hy];have LX:=Lh (fP x);have LY:=Lh (fP y);obtain⟨n,hn⟩:∃ n,x.ng=n:=⟨_,rfl⟩;obtain⟨m,hm⟩:∃ m,y.ng=m:=⟨_,rfl⟩;rw[hn,hm];obtain⟨x2,hx2⟩:∃ z,z=WI.of (sgn (n != m) (x.sz*y.sz)):=⟨_,rfl⟩;rw[← hx2];have HV:Hid (∀ b:Bool,b=(n != m)→Hid (WI.of (sgn b (nv (dg (nv (dg x.sz)*nv (dg y.sz)))))=x2)):=fun b hb=>by rw[aY,aY,aY,hx2,hb];exact rfl
   clear hn hm hx2;go_enter Tryz.func28,Tryz.ntmps28;go_wp2_with fail;have HB:Hid (Below w.heap.size w (((w.alloc (Obj.cells #[.bool n,.bool false,.slice A (dg x.sz).length cap] 52)).alloc (Obj.cells #[.bool m,.bool false,.slice B (dg y.sz).length cbp] 52)).alloc (Obj.cells #[.bool false,.bool false,.slice none 0 0] 52)).drew):=ae;have c0:=@ao _ _ _ (show(((w.alloc (Obj.cells #[.bool n,.bool false,.slice A (dg x.sz).length cap] 52)).alloc (Obj.cells #[.bool m,.bool false,.slice B (dg y.sz).length cbp] 52)).alloc (Obj.cells #[.bool false,.bool false,.slice none 0 0] 52)).cell? ⟨w.heap.size,0,none⟩=some (.bool n) from(by go_simp));have c1:=@ao _ _ _ (show(((w.alloc (Obj.cells #[.bool n,.bool false,.slice A (dg x.sz).length cap] 52)).alloc (Obj.cells #[.bool m,.bool false,.slice B (dg y.sz).length cbp] 52)).alloc (Obj.cells #[.bool false,.bool false,.slice none 0 0] 52)).cell? ⟨w.heap.size,2,none⟩=some (.slice A (dg x.sz).length cap) from(by go_simp));have c2:=@ao _ _ _ (show(((w.alloc (Obj.cells #[.bool n,.bool false,.slice A (dg x.sz).length cap] 52)).alloc (Obj.cells #[.bool m,.bool false,.slice B (dg y.sz).length cbp] 52)).alloc (Obj.cells #[.bool false,.bool false,.slice none 0 0] 52)).cell? ⟨w.heap.size+1,0,none⟩=some (.bool m) from(by go_simp));have c3:=@ao _ _ _ (show(((w.alloc (Obj.cells #[.bool n,.bool false,.slice A (dg x.sz).length cap] 52)).alloc (Obj.cells #[.bool m,.bool false,.slice B (dg y.sz).length cbp] 52)).alloc (Obj.cells #[.bool false,.bool false,.slice none 0 0] 52)).cell? ⟨w.heap.size+1,2,none⟩=some (.slice B (dg y.sz).length cbp) from(by go_simp));refine av 11 (fun k=>match k with|9=>some (gRd (dg (nv (dg x.sz)*nv (dg y.sz))))|10=>some (aG x2)|_=>none) (fun k=>match k with|10=>[9]|_=>[]) (by kernel_rfl) (by kernel_rfl) ?_;apply Eb;apply Eb;apply Eb;apply Eb;apply Eb;apply Eb;apply Eb;apply Eb;apply Eb;apply Ef;apply Ef;refine⟨[],fun gg NN hN=>?_⟩;simp only[List.append_eq,List.cons_append,List.nil_append,List.take_succ_cons,List.take_zero,List.drop_succ_cons,List.drop_zero];(repeat (first|(refine aj rfl ?_;go_big_quiet_step (first|exact rfl|(fail));refine wpQuiet_nil ⟨?hd,?_⟩;(case hd=>exact rfl))|(refine ag _ (by rfl) (by rfl) ?hex ?_;(case hex=>(intro px;first|(refine ai (fn:=82) (by go_simp;rfl) ?_;exact Ae _ _ _ _ _ (HS.out.below (am HB.out px)) (HT.out.below (am HB.out px)) (Nat.le_trans LX.out (by decide)) (Nat.le_trans LY.out (by decide)))|(refine ai (fn:=81) (by go_simp;rfl) ?_;exact eA _ _ _ _ _ (HV.out _ (by first|rfl|simp)) (px.has 9 (hN 10 9 (by simp)) _ rfl))));simp only[Act.put,List.setIfInBounds_toArray,List.set_cons_succ,List.set_cons_zero])));refine aM ?_;intro w1 hb1' hh;have hb1:Below (((w.alloc (Obj.cells #[.bool n,.bool false,.slice A (dg x.sz).length cap] 52)).alloc (Obj.cells #[.bool m,.bool false,.slice B (dg y.sz).length cbp] 52)).alloc (Obj.cells #[.bool false,.bool false,.slice none 0 0] 52)).heap.size (((w.alloc (Obj.cells #[.bool n,.bool false,.slice A (dg x.sz).length cap] 52)).alloc (Obj.cells #[.bool m,.bool false,.slice B (dg y.sz).length cbp] 52)).alloc (Obj.cells #[.bool false,.bool false,.slice none 0 0] 52)) w1:=hb1';obtain⟨A2,cap2,e7,hs2⟩:=(show ap w1 (gg 10) x2 from hh 10 _ (by decide) rfl).opened;have HS2:=Lh hs2;rw[e7];clear hb1' hh hs2 e7 c0 c1 c2 c3;have z_w1:=hb1.size;(try simp at z_w1);have K_w1_0:=bq3 hb1 (w.heap.size);go_wp2_with fail;refine ak 3 #[.bool x2.ng,.bool x2.ov,.slice A2 (dg x2.sz).length cap2] rfl rfl rfl Tryz.underlying52 rfl (by kernel_rfl) rc3 ⟨⟨_,rfl,ap.mk (HS2.out.res (by go_simp) (by go_simp) (by go_simp) _ _ _)⟩,ae⟩
theorem fX (a b:Value) (x y z:WI) (w:World) (hz:Hid (x.add y=z)) (ha:ap w a x) (hb:ap w b y) :
  Calls Tryz.prog 43 #[a,b] w fun e w'=>(∃ v,e = .returned v∧ap w' v z)∧Below w.heap.size w w':=by
 rw[← hz.out];exact Gb a b x y w ha hb
theorem Ff (a b:Value) (x y:WI) (w:World) (ha:ap w a x) (hb:ap w b y) :
  Calls Tryz.prog 27 #[a,b] w fun e w'=>(∃ v,e = .returned v∧ap w' v (x.sub y))∧Below w.heap.size w w':=by
 obtain⟨A,cap,rfl,hs⟩:=ha.opened;obtain⟨B,cbp,rfl,ht⟩:=hb.opened;have HS:=Lh hs;have HT:=Lh ht;clear hs ht ha hb;obtain⟨x2,hx2⟩:∃ z,z=x.sub y:=⟨_,rfl⟩;rw[← hx2];have HV:Hid (x.add y.neg=x2):=by rw[hx2];exact rfl
 clear hx2;go_enter Tryz.func27,Tryz.ntmps27;go_wp2_with fail;have HB:Hid (Below w.heap.size w (((w.alloc (Obj.cells #[.bool x.ng,.bool x.ov,.slice A (dg x.sz).length cap] 52)).alloc (Obj.cells #[.bool y.ng,.bool y.ov,.slice B (dg y.sz).length cbp] 52)).alloc (Obj.cells #[.bool false,.bool false,.slice none 0 0] 52)).drew):=ae;have c0:=@ao _ _ _ (show(((w.alloc (Obj.cells #[.bool x.ng,.bool x.ov,.slice A (dg x.sz).length cap] 52)).alloc (Obj.cells #[.bool y.ng,.bool y.ov,.slice B (dg y.sz).length cbp] 52)).alloc (Obj.cells #[.bool false,.bool false,.slice none 0 0] 52)).cell? ⟨w.heap.size,0,none⟩=some (.bool x.ng) from(by go_simp));have c1:=@ao _ _ _ (show(((w.alloc (Obj.cells #[.bool x.ng,.bool x.ov,.slice A (dg x.sz).length cap] 52)).alloc (Obj.cells #[.bool y.ng,.bool y.ov,.slice B (dg y.sz).length cbp] 52)).alloc (Obj.cells #[.bool false,.bool false,.slice none 0 0] 52)).cell? ⟨w.heap.size,1,none⟩=some (.bool x.ov) from(by go_simp));have c2:=@ao _ _ _ (show(((w.alloc (Obj.cells #[.bool x.ng,.bool x.ov,.slice A (dg x.sz).length cap] 52)).alloc (Obj.cells #[.bool y.ng,.bool y.ov,.slice B (dg y.sz).length cbp] 52)).alloc (Obj.cells #[.bool false,.bool false,.slice none 0 0] 52)).cell? ⟨w.heap.size,2,none⟩=some (.slice A (dg x.sz).length cap) from(by go_simp));have c3:=@ao _ _ _ (show(((w.alloc (Obj.cells #[.bool x.ng,.bool x.ov,.slice A (dg x.sz).length cap] 52)).alloc (Obj.cells #[.bool y.ng,.bool y.ov,.slice B (dg y.sz).length cbp] 52)).alloc (Obj.cells #[.bool false,.bool false,.slice none 0 0] 52)).cell? ⟨w.heap.size+1,0,none⟩=some (.bool y.ng) from(by go_simp));have c4:=@ao _ _ _ (show(((w.alloc (Obj.cells #[.bool x.ng,.bool x.ov,.slice A (dg x.sz).length cap] 52)).alloc (Obj.cells #[.bool y.ng,.bool y.ov,.slice B (dg y.sz).length cbp] 52)).alloc (Obj.cells #[.bool false,.bool false,.slice none 0 0] 52)).cell? ⟨w.heap.size+1,1,none⟩=some (.bool y.ov) from(by go_simp));have c5:=@ao _ _ _ (show(((w.alloc (Obj.cells #[.bool x.ng,.bool x.ov,.slice A (dg x.sz).length cap] 52)).alloc (Obj.cells #[.bool y.ng,.bool y.ov,.slice B (dg y.sz).length cbp] 52)).alloc (Obj.cells #[.bool false,.bool false,.slice none 0 0] 52)).cell? ⟨w.heap.size+1,2,none⟩=some (.slice B (dg y.sz).length cbp) from(by go_simp));refine av 4 (fun k=>match k with|2=>some (aG y.neg)|3=>some (aG x2)|_=>none) (fun k=>match k with|3=>[2]|_=>[]) (by kernel_rfl) (by kernel_rfl) ?_;apply Eb;apply Eb;apply Ef;apply Ef;refine⟨[],fun gg NN hN=>?_⟩;simp only[List.append_eq,List.cons_append,List.nil_append,List.take_succ_cons,List.take_zero,List.drop_succ_cons,List.drop_zero];(repeat (first|(refine aj rfl ?_;go_big_quiet_step (first|exact rfl|(fail));refine wpQuiet_nil ⟨?hd,?_⟩;(case hd=>exact rfl))|(refine ag _ (by rfl) (by rfl) ?hex ?_;(case hex=>(intro px;first|(refine ai (fn:=60) (by go_simp;rfl) ?_;exact uc _ _ _ (ap.mk (HT.out.below (am HB.out px))))|(refine ai (fn:=43) (by go_simp;rfl) ?_;exact fX _ _ _ _ _ _ HV (ap.mk (HS.out.below (am HB.out px))) (px.has 2 (hN 3 2 (by simp)) _ rfl))));simp only[Act.put,List.setIfInBounds_toArray,List.set_cons_succ,List.set_cons_zero])));refine aM ?_;intro w1 hb1' hh;have hb1:Below (((w.alloc (Obj.cells #[.bool x.ng,.bool x.ov,.slice A (dg x.sz).length cap] 52)).alloc (Obj.cells #[.bool y.ng,.bool y.ov,.slice B (dg y.sz).length cbp] 52)).alloc (Obj.cells #[.bool false,.bool false,.slice none 0 0] 52)).heap.size (((w.alloc (Obj.cells #[.bool x.ng,.bool x.ov,.slice A (dg x.sz).length cap] 52)).alloc (Obj.cells #[.bool y.ng,.bool y.ov,.slice B (dg y.sz).length cbp] 52)).alloc (Obj.cells #[.bool false,.bool false,.slice none 0 0] 52)) w1:=hb1';obtain⟨A2,cap2,e7,hs2⟩:=(show ap w1 (gg 3) x2 from hh 3 _ (by decide) rfl).opened;have HS2:=Lh hs2;rw[e7];clear hb1' hh hs2 e7 c0 c1 c2 c3 c4 c5;have z_w1:=hb1.size;(try simp at z_w1);have K_w1_0:=bq3 hb1 (w.heap.size);go_wp2_with fail;refine ak 3 #[.bool x2.ng,.bool x2.ov,.slice A2 (dg x2.sz).length cap2] rfl rfl rfl Tryz.underlying52 rfl (by kernel_rfl) rc3 ⟨⟨_,rfl,ap.mk (HS2.out.res (by go_simp) (by go_simp) (by go_simp) _ _ _)⟩,ae⟩
theorem AO (s:Value) (N j:Nat) (k:Int) (w:World) (hk:k=(j:Int)) (hs:Rd w s (dg N)) (hx:(dg N).length≤1000000) (hj:j≤1000000) :
  Calls Tryz.prog 110 #[s,.int .i64 k] w fun e w'=>(∃ s',e = .returned (.tuple #[s',.bool (vV N j)])∧Rd w' s' (dg (N/2^j)))∧Below w.heap.size w w':=by
 subst hk;exact tU s N j w hs hx hj
theorem Rd.one {w:World} {g:Nat} {a:Nat} (ha:a<4294967296) (hg:g<w.heap.size) (c0:w.cell? ⟨g,0,none⟩=some (.int .u32 (a:Int))):Rd w (.slice (some ⟨g,0,none⟩) 1 1) [a]:=by
 refine⟨fun d hd=>?_,.inr ⟨g,0,1,rfl,by simp,by simp,hg,fun i hi=>?_⟩⟩
 ·simp at hd;rw[hd];exact ha
 ·rcases i with _|i
  ·exact c0
  ·exact absurd hi (by simp)
theorem bA (a b:Value) (x y z:WI) (w:World) (hz:Hid (x.mul y=z)) (ha:ap w a x) (hb:ap w b y) :
  Calls Tryz.prog 28 #[a,b] w fun e w'=>(∃ v,e = .returned v∧ap w' v z)∧Below w.heap.size w w':=by
 rw[← hz.out];exact mt a b x y w ha hb
theorem Rd.putRow {w:World} {s:Value} {xs:List Nat} (h:Rd w s xs) {g:Nat} {cs:Array Value} {t:TypeId} (hB:Blk w g cs t) (hn:∀ i:Nat,∀ n,cs[i]? ≠ some (.int .u32 n)) (o:Nat) (ds:Array Value):Rd (w.putRow g o ds) s xs:=by
 obtain⟨hd,h|⟨b,o',cap,hs,h1,h2,h3,h4⟩⟩:=h
 ·exact⟨hd,.inl h⟩
 ·refine⟨hd,.inr ⟨b,o',cap,hs,h1,h2,by simpa using h3,fun i hi=>?_⟩⟩;rw[cell?_putRow_other]
  ·exact h4 i hi
  ·rintro rfl;have:=h4 i hi;rw[hB.at] at this;exact hn _ _ this
def tH (x:WI) (A:Option Addr) (c:Nat):Array Value:=#[.bool x.ng,.bool x.ov,.slice A (dg x.sz).length c]
def dq (w:World) (g:Nat) (x:WI):Prop:=∃ A c,Blk w g (tH x A c) 52∧Rd w (.slice A (dg x.sz).length c) (dg x.sz)
theorem dq.keep {w w':World} {g:Nat} {x:WI} (h:dq w g x) (hb:Below w.heap.size w w'):dq w' g x:=by
 obtain⟨A,c,h1,h2⟩:=h;exact⟨A,c,h1.keep hb,h2.below hb⟩
theorem dq.put {w:World} {g:Nat} {x:WI} (h:dq w g x) {y:WI} {s:Value} (hs:Rd w s (dg y.sz)) :
  dq (((w.setCell ⟨g,0,none⟩ (.bool y.ng)).setCell ⟨g,1,none⟩ (.bool y.ov)).setCell ⟨g,2,none⟩ s) g y:=by
 obtain⟨A,c,h1,-⟩:=h;obtain⟨A',c',rfl⟩:=hs.form;exact⟨A',c',((h1.ab 0 _).ab 1 _).ab 2 _,hs.set3 (h1.cell (i:=0) rfl) (h1.cell (i:=1) rfl) (h1.cell (i:=2) rfl) _ _ _⟩
theorem dq.putRow {w:World} {g b:Nat} {x:WI} (h:dq w g x) {cs:Array Value} {t:TypeId} (hB:Blk w b cs t) (hn:∀ i:Nat,∀ n,cs[i]? ≠ some (.int .u32 n)) (hne:g≠b) (ds:Array Value):dq (w.putRow b 0 ds) g x:=by
 obtain⟨A,c,h1,h2⟩:=h;exact⟨A,c,h1.aC hne _ _,h2.putRow hB hn _ _⟩
def pT (w:World) (A:Option Addr) (len:Nat) (T:Nat→Int):Prop :=
 ∀ i,i<len→∃ b o,A=some ⟨b,o,none⟩∧b<w.heap.size∧w.cell? ⟨b,o+i,none⟩=some (.int .i64 (T i)) ∧ -9223372036854775808≤T i∧T i≤9223372036854775807
theorem pT.below {w w':World} {A:Option Addr} {len:Nat} {T:Nat→Int} (h:pT w A len T) (hb:Below w.heap.size w w'):pT w' A len T:=fun i hi=>by
 obtain⟨b,o,e,h1,h2,h3⟩:=h i hi;exact⟨b,o,e,Nat.lt_of_lt_of_le h1 hb.size,(hb.cell (p:=⟨b,_,none⟩) h1).trans h2,h3⟩
def xO (T:Nat→Int):Nat→WI
 | 0=>WI.of 0
 | k+1=>((xO T k).mul (WI.of 4611686018427387904)).add (WI.of (T k))
def zO (w:World) (v:Value) (z:WI):Prop:=∃ A len cap T K,v = .agg #[.slice A len cap,.int .i64 K] ∧ -9223372036854775808≤K∧len≤9223372036854775807∧pT w A len T∧z=(xO T (min len 17)).shl K
theorem zO.below {w w':World} {v:Value} {z:WI} (h:zO w v z) (hb:Below w.heap.size w w'):zO w' v z:=by
 obtain⟨A,len,cap,T,K,h1,h2,h3,h4,h5⟩:=h;exact⟨A,len,cap,T,K,h1,h2,h3,h4.below hb,h5⟩
end Go.Proofs.YtnoidlacjiafdaaGreat
