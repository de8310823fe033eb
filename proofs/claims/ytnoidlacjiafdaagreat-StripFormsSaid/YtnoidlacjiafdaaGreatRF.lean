/- Laws and walks that the claim names. -/
import Derived.Test.YtnoidlacjiafdaaGreatQA
namespace Go.Proofs.YtnoidlacjiafdaaGreat
set_option maxRecDepth 100000
set_option maxHeartbeats 16000000
set_option linter.unusedSimpArgs false
set_option linter.unusedVariables false
open Go.RowKit
theorem jI {P:Program} {f:aU} {w:World} {r:Result Next} {v:Value} (hr:r = .ok (.value v) w) (h:f.holds w v) (hf:∀ v,f.own v=none:=by intro _;rfl):dD P f w r:=by
 subst hr;exact⟨h,Below.refl _ _,fun b hb=>by rw[hf v] at hb;cases hb⟩
def ZIs (w:World) (v:Value) (z:Int):Prop:=∃ s,v = .agg #[.bool (decide (z<0)),.bool false,s]∧Rd w s (dg z.natAbs)
theorem ZIs.below {w w':World} {v:Value} {z:Int} (h:ZIs w v z) (hb:Below w.heap.size w w'):ZIs w' v z:=by
 obtain⟨s,hs,hr⟩:=h;exact⟨s,hs,hr.below hb⟩
def gZ (z:Int):aU:={ holds:=fun w v=>ZIs w v z,stable:=fun h hb=>h.below hb }
theorem Df (v:Value) (z:Int) (w:World) (hz:ZIs w v z) :
  Calls Tryz.prog 29 #[v] w fun e w'=>e = .returned (.int .i64 z.sign)∧Below w.heap.size w w':=by
 obtain⟨s,rfl,hr⟩:=hz;obtain⟨A,cap,rfl⟩:=hr.form;have hl:(dg z.natAbs).length=0↔z=0:=by rw[List.length_eq_zero_iff,d6];omega
 clear hr;rcases Int.lt_trichotomy z 0 with h|h|h
 ·have e:Hid (z.sign = -1):=Int.sign_eq_neg_one_of_neg h;have hz:¬ (dg z.natAbs).length=0:=fun h'=>by have:=hl.1 h';omega
  have hd:decide (z<0)=true:=by simp[h]
  rw[hd];clear hl h hd;go_enter Tryz.func29,Tryz.ntmps29;go_wp2_with fail;go_ret;exact⟨cq e.out.symm,ae⟩
 ·subst h;have hz:(dg (0:Int).natAbs).length=0:=hl.2 rfl;rw[hz];clear hl hz;go_enter Tryz.func29,Tryz.ntmps29;go_wp2_with fail;go_ret;exact⟨rfl,ae⟩
 ·have e:Hid (z.sign=1):=Int.sign_eq_one_of_pos h;have hz:¬ (dg z.natAbs).length=0:=fun h'=>by have:=hl.1 h';omega
  have hd:decide (z<0)=false:=by simp;omega
  rw[hd];clear hl h hd;go_enter Tryz.func29,Tryz.ntmps29;go_wp2_with fail;go_ret;exact⟨cq e.out.symm,ae⟩
theorem kS (n:Bool) (N:Nat):decide (sgn n N<0)=(n&&decide (N≠0)):=by
 unfold sgn;cases n
 ·simp
 ·rw[Bool.true_and,decide_eq_decide];simp;omega
theorem Dc (a b:Value) (x y:WI) (w:World) (hx:ap w a x) (hy:ap w b y) (hox:x.ov=false) (hoy:y.ov=false) :
  Calls Tryz.prog 130 #[a,b] w fun e w'=>(∃ v,e = .returned v∧ZIs w' v (sgn x.ng x.sz-sgn y.ng y.sz))∧Below w.heap.size w w':=by
 obtain⟨Ax,cx,rfl,hsx⟩:=hx.opened;have HSx:=Lh hsx;clear hsx hx;obtain⟨Ay,cy,rfl,hsy⟩:=hy.opened;have HSy:=Lh hsy;clear hsy hy;rw[hox,hoy];have LX:=Lh (fP x);have LY:=Lh (fP y);obtain⟨z,hz⟩:∃ z,z=sgn x.ng x.sz-sgn y.ng y.sz:=⟨_,rfl⟩;rw[← hz];have HZ:=Lh hz;clear hz hox hoy;by_cases hn:x.ng=y.ng
 ·obtain⟨n,hxn⟩:∃ n,x.ng=n:=⟨_,rfl⟩;have hyn:y.ng=n:=by rw[← hn,hxn]
  rw[hxn,hyn] at HZ ⊢;clear hn hxn hyn;by_cases hle:y.sz≤x.sz
  ·have e0:z=sgn n (x.sz-y.sz):=by rw[HZ.out];unfold sgn;split <;> omega
   have HZN:Hid (decide (z<0)=(n&&decide (x.sz-y.sz≠0))):=by rw[e0];exact kS _ _
   have HZA:Hid (dg z.natAbs=dg (nv (dg x.sz)-nv (dg y.sz))):=by show _=_;rw[e0,dr,aY,aY]
   have HLE:Hid (nv (dg y.sz)≤nv (dg x.sz)):=by rw[aY,aY];exact hle
   have HLL:Hid ((dg y.sz).length≤(dg x.sz).length):=bV hle;have hc:(0:Int)≤cmpD x.sz y.sz:=jm hle
   have HDZ:Hid ((dg z.natAbs).length=0↔x.sz-y.sz=0):=by
    show _↔_;rw[HZA.out,aY,aY,List.length_eq_zero_iff,d6]
   clear hle e0;go_enter Tryz.func130,Tryz.ntmps130;go_wp2_with fail;refine(kC _ _ _ _ _ (HSx.out.below ae) (HSy.out.below ae)).mono ?_;rintro e w0 ⟨rfl,hb0⟩;have z_w0:=hb0.size;(try simp at z_w0);have K_w0_0:=bq3 hb0 (w.heap.size);go_wp2_with fail;refine(kZ _ _ _ _ _ (HSx.out.below ae) (HSy.out.below ae) (Nat.le_trans LX.out (by decide)) HLL.out HLE.out).mono ?_;rintro e w1 ⟨⟨s,rfl,hs⟩,hb1⟩;have z_w1:=hb1.size;(try simp at z_w1);have K_w1_0:=bq3 hb1 (w.heap.size);rw[← HZA.out] at hs;obtain⟨A2,c2,rfl⟩:=hs.form;have HS:=Lh hs;clear hs;cases n with
   | false =>
    have E:Hid (decide (z<0)=false):=by show _=_;rw[HZN.out];rfl
    go_wp2_with fail;refine ak 3 #[.bool false,.bool false,.slice A2 (dg z.natAbs).length c2] rfl rfl rfl Tryz.underlying52 rfl (by kernel_rfl) rc3 ⟨⟨_,rfl,⟨_,by rw[E.out],(HS.out.below ae).res (by go_simp) (by go_simp) (by go_simp) _ _ _⟩⟩,ae⟩
   | true =>
    by_cases h0:(dg z.natAbs).length=0
    ·have E:Hid (decide (z<0)=false):=by show _=_;rw[HZN.out,HDZ.out.1 h0];rfl
     rw[h0] at HS ⊢;go_wp2_with fail;refine ak 3 #[.bool false,.bool false,.slice A2 0 c2] rfl rfl rfl Tryz.underlying52 rfl (by kernel_rfl) rc3 ⟨⟨_,rfl,⟨_,by rw[E.out],(HS.out.below ae).res (by go_simp) (by go_simp) (by go_simp) _ _ _⟩⟩,ae⟩
    · have E : Hid (decide (z < 0) = true) := by
        show _=_;rw[HZN.out,Bool.true_and];exact decide_eq_true (fun h=>h0 (HDZ.out.2 h))
      have h1:0<(dg z.natAbs).length:=by omega
      go_wp2_with fail;refine ak 3 #[.bool true,.bool false,.slice A2 (dg z.natAbs).length c2] rfl rfl rfl Tryz.underlying52 rfl (by kernel_rfl) rc3 ⟨⟨_,rfl,⟨_,by rw[E.out],(HS.out.below ae).res (by go_simp) (by go_simp) (by go_simp) _ _ _⟩⟩,ae⟩
  ·have e0:z=sgn (!n) (y.sz-x.sz):=by rw[HZ.out];unfold sgn;cases n <;> simp <;> omega
   have HZN:Hid (decide (z<0) = !n):=by
    show _=_;rw[e0,kS,decide_eq_true (show y.sz-x.sz≠0 by omega),Bool.and_true]
   have HZA:Hid (dg z.natAbs=dg (nv (dg y.sz)-nv (dg x.sz))):=by show _=_;rw[e0,dr,aY,aY]
   have HLE:Hid (nv (dg x.sz)≤nv (dg y.sz)):=by rw[aY,aY];show _≤_;omega
   have HLL:Hid ((dg x.sz).length≤(dg y.sz).length):=bV (by omega);have hc:¬ (0:Int)≤cmpD x.sz y.sz:=gG hle;clear hle e0;go_enter Tryz.func130,Tryz.ntmps130;go_wp2_with fail;refine(kC _ _ _ _ _ (HSx.out.below ae) (HSy.out.below ae)).mono ?_;rintro e w0 ⟨rfl,hb0⟩;have z_w0:=hb0.size;(try simp at z_w0);have K_w0_0:=bq3 hb0 (w.heap.size);go_wp2_with fail;have HB:Hid (Below w.heap.size w w0.drew):=ae;have qx0:=@ao _ _ _ (show(w0).cell? ⟨w.heap.size,0,none⟩=some (.bool n) from(by go_simp));have qx2:=@ao _ _ _ (show(w0).cell? ⟨w.heap.size,2,none⟩=some (.slice Ax (dg x.sz).length cx) from(by go_simp));have qy2:=@ao _ _ _ (show(w0).cell? ⟨w.heap.size+1,2,none⟩=some (.slice Ay (dg y.sz).length cy) from(by go_simp));refine av 9 (fun k=>match k with|7=>some (gRd (dg (nv (dg y.sz)-nv (dg x.sz))))|8=>some (gZ z)|_=>none) (fun k=>match k with|8=>[7]|_=>[]) (by kernel_rfl) (by kernel_rfl) ?_;apply Eb;apply Eb;apply Eb;apply Eb;apply Eb;apply Eb;apply Eb;apply Ef;apply Ef;refine⟨[],fun gg NN hN=>?_⟩;simp only[List.append_eq,List.cons_append,List.nil_append,List.take_succ_cons,List.take_zero,List.drop_succ_cons,List.drop_zero];(repeat (refine aj rfl ?_;go_big_quiet_step (first|exact rfl|(fail));refine wpQuiet_nil ⟨?hd,?_⟩;(case hd=>exact rfl)));(refine ag _ (by rfl) (by rfl) ?hex ?_;(case hex=>(intro px;refine ai (fn:=105) (by go_simp;rfl) ?_;exact kZ _ _ _ _ _ (HSy.out.below (am HB.out px)) (HSx.out.below (am HB.out px)) (Nat.le_trans LY.out (by decide)) HLL.out HLE.out));simp only[Act.put,List.setIfInBounds_toArray,List.set_cons_succ,List.set_cons_zero]);(refine ag _ (by rfl) (by rfl) ?hex ?_;(case hex=>(intro px;have h:=px.has 7 (hN 8 7 (by simp)) _ rfl;obtain⟨As,cs,hg⟩:=Rd.form h;have h2:Rd px.w (gg 7) _:=h;rw[hg] at h2 ⊢;exact jI (by go_simp;rfl) ⟨_,by rw[HZN.out],by rw[HZA.out];exact h2⟩));simp only[Act.put,List.setIfInBounds_toArray,List.set_cons_succ,List.set_cons_zero]);refine aM ?_;intro w1 hb1' hh;have hb1:Below (w0).heap.size (w0) w1:=hb1';obtain⟨s2,e7,hs2⟩:=(show ZIs w1 (gg 8) z from hh 8 _ (by decide) rfl);obtain⟨A2,cap2,rfl⟩:=hs2.form;have HS2:=Lh hs2;rw[e7];clear hb1' hh hs2 e7 qx0 qx2 qy2;have z_w1:=hb1.size;(try simp at z_w1);have K_w1_0:=bq3 hb1 (w.heap.size);go_wp2_with fail;refine ak 3 #[.bool (decide (z<0)),.bool false,.slice A2 (dg z.natAbs).length cap2] rfl rfl rfl Tryz.underlying52 rfl (by kernel_rfl) rc3 ⟨⟨_,rfl,⟨_,rfl,HS2.out.res (by go_simp) (by go_simp) (by go_simp) _ _ _⟩⟩,ae⟩
 · have hor : (x.ng = false ∧ y.ng = true) ∨ (x.ng = true ∧ y.ng = false) := by
     cases hx:x.ng <;> cases hy:y.ng
     ·exact absurd (hx.trans hy.symm) hn
     ·exact .inl ⟨rfl,rfl⟩
     ·exact .inr ⟨rfl,rfl⟩
     ·exact absurd (hx.trans hy.symm) hn
   have hnz:=WI.nS x;clear hn;rcases hor with ⟨hx,hy⟩|⟨hx,hy⟩
   ·rw[hx,hy] at HZ ⊢;have e0:z=sgn false (x.sz+y.sz):=by rw[HZ.out];unfold sgn;simp
    have HZN:Hid (decide (z<0)=false):=by
     show _=_;rw[e0,kS];rfl
    have HZA:Hid (dg z.natAbs=dg (nv (dg x.sz)+nv (dg y.sz))):=by show _=_;rw[e0,dr,aY,aY]
    clear e0 hx hy hnz;go_enter Tryz.func130,Tryz.ntmps130;go_wp2_with fail;have HB:Hid (Below w.heap.size w ((((w).alloc (Obj.cells #[.bool false,.bool false,.slice Ax (dg x.sz).length cx] 52)).alloc (Obj.cells #[.bool true,.bool false,.slice Ay (dg y.sz).length cy] 52)).alloc (Obj.cells #[.bool false,.bool false,.slice none 0 0] 52)).drew):=ae;have qx0:=@ao _ _ _ (show((((w).alloc (Obj.cells #[.bool false,.bool false,.slice Ax (dg x.sz).length cx] 52)).alloc (Obj.cells #[.bool true,.bool false,.slice Ay (dg y.sz).length cy] 52)).alloc (Obj.cells #[.bool false,.bool false,.slice none 0 0] 52)).cell? ⟨w.heap.size,0,none⟩=some (.bool false) from(by go_simp));have qx2:=@ao _ _ _ (show((((w).alloc (Obj.cells #[.bool false,.bool false,.slice Ax (dg x.sz).length cx] 52)).alloc (Obj.cells #[.bool true,.bool false,.slice Ay (dg y.sz).length cy] 52)).alloc (Obj.cells #[.bool false,.bool false,.slice none 0 0] 52)).cell? ⟨w.heap.size,2,none⟩=some (.slice Ax (dg x.sz).length cx) from(by go_simp));have qy2:=@ao _ _ _ (show((((w).alloc (Obj.cells #[.bool false,.bool false,.slice Ax (dg x.sz).length cx] 52)).alloc (Obj.cells #[.bool true,.bool false,.slice Ay (dg y.sz).length cy] 52)).alloc (Obj.cells #[.bool false,.bool false,.slice none 0 0] 52)).cell? ⟨w.heap.size+1,2,none⟩=some (.slice Ay (dg y.sz).length cy) from(by go_simp));refine av 8 (fun k=>match k with|6=>some (gRd (dg (nv (dg x.sz)+nv (dg y.sz))))|7=>some (gZ z)|_=>none) (fun k=>match k with|7=>[6]|_=>[]) (by kernel_rfl) (by kernel_rfl) ?_;apply Eb;apply Eb;apply Eb;apply Eb;apply Eb;apply Eb;apply Ef;apply Ef;refine⟨[],fun gg NN hN=>?_⟩;simp only[List.append_eq,List.cons_append,List.nil_append,List.take_succ_cons,List.take_zero,List.drop_succ_cons,List.drop_zero];(repeat (refine aj rfl ?_;go_big_quiet_step (first|exact rfl|(fail));refine wpQuiet_nil ⟨?hd,?_⟩;(case hd=>exact rfl)));(refine ag _ (by rfl) (by rfl) ?hex ?_;(case hex=>(intro px;refine ai (fn:=103) (by go_simp;rfl) ?_;exact jB _ _ _ _ _ (HSx.out.below (am HB.out px)) (HSy.out.below (am HB.out px)) (Nat.le_trans LX.out (by decide)) (Nat.le_trans LY.out (by decide))));simp only[Act.put,List.setIfInBounds_toArray,List.set_cons_succ,List.set_cons_zero]);(refine ag _ (by rfl) (by rfl) ?hex ?_;(case hex=>(intro px;have h:=px.has 6 (hN 7 6 (by simp)) _ rfl;obtain⟨As,cs,hg⟩:=Rd.form h;have h2:Rd px.w (gg 6) _:=h;rw[hg] at h2 ⊢;exact jI (by go_simp;rfl) ⟨_,by rw[HZN.out],by rw[HZA.out];exact h2⟩));simp only[Act.put,List.setIfInBounds_toArray,List.set_cons_succ,List.set_cons_zero]);refine aM ?_;intro w1 hb1' hh;have hb1:Below ((((w).alloc (Obj.cells #[.bool false,.bool false,.slice Ax (dg x.sz).length cx] 52)).alloc (Obj.cells #[.bool true,.bool false,.slice Ay (dg y.sz).length cy] 52)).alloc (Obj.cells #[.bool false,.bool false,.slice none 0 0] 52)).heap.size ((((w).alloc (Obj.cells #[.bool false,.bool false,.slice Ax (dg x.sz).length cx] 52)).alloc (Obj.cells #[.bool true,.bool false,.slice Ay (dg y.sz).length cy] 52)).alloc (Obj.cells #[.bool false,.bool false,.slice none 0 0] 52)) w1:=hb1';obtain⟨s2,e7,hs2⟩:=(show ZIs w1 (gg 7) z from hh 7 _ (by decide) rfl);obtain⟨A2,cap2,rfl⟩:=hs2.form;have HS2:=Lh hs2;rw[e7];clear hb1' hh hs2 e7 qx0 qx2 qy2;have z_w1:=hb1.size;(try simp at z_w1);have K_w1_0:=bq3 hb1 (w.heap.size);go_wp2_with fail;refine ak 3 #[.bool (decide (z<0)),.bool false,.slice A2 (dg z.natAbs).length cap2] rfl rfl rfl Tryz.underlying52 rfl (by kernel_rfl) rc3 ⟨⟨_,rfl,⟨_,rfl,HS2.out.res (by go_simp) (by go_simp) (by go_simp) _ _ _⟩⟩,ae⟩
   ·rw[hx,hy] at HZ ⊢;have e0:z=sgn true (x.sz+y.sz):=by rw[HZ.out];unfold sgn;simp;omega
    have HZN:Hid (decide (z<0)=true):=by
     show _=_;rw[e0,kS];rw[Bool.true_and];exact decide_eq_true (by have:=hnz hx;omega)
    have HZA:Hid (dg z.natAbs=dg (nv (dg x.sz)+nv (dg y.sz))):=by show _=_;rw[e0,dr,aY,aY]
    clear e0 hx hy hnz;go_enter Tryz.func130,Tryz.ntmps130;go_wp2_with fail;have HB:Hid (Below w.heap.size w ((((w).alloc (Obj.cells #[.bool true,.bool false,.slice Ax (dg x.sz).length cx] 52)).alloc (Obj.cells #[.bool false,.bool false,.slice Ay (dg y.sz).length cy] 52)).alloc (Obj.cells #[.bool false,.bool false,.slice none 0 0] 52)).drew):=ae;have qx0:=@ao _ _ _ (show((((w).alloc (Obj.cells #[.bool true,.bool false,.slice Ax (dg x.sz).length cx] 52)).alloc (Obj.cells #[.bool false,.bool false,.slice Ay (dg y.sz).length cy] 52)).alloc (Obj.cells #[.bool false,.bool false,.slice none 0 0] 52)).cell? ⟨w.heap.size,0,none⟩=some (.bool true) from(by go_simp));have qx2:=@ao _ _ _ (show((((w).alloc (Obj.cells #[.bool true,.bool false,.slice Ax (dg x.sz).length cx] 52)).alloc (Obj.cells #[.bool false,.bool false,.slice Ay (dg y.sz).length cy] 52)).alloc (Obj.cells #[.bool false,.bool false,.slice none 0 0] 52)).cell? ⟨w.heap.size,2,none⟩=some (.slice Ax (dg x.sz).length cx) from(by go_simp));have qy2:=@ao _ _ _ (show((((w).alloc (Obj.cells #[.bool true,.bool false,.slice Ax (dg x.sz).length cx] 52)).alloc (Obj.cells #[.bool false,.bool false,.slice Ay (dg y.sz).length cy] 52)).alloc (Obj.cells #[.bool false,.bool false,.slice none 0 0] 52)).cell? ⟨w.heap.size+1,2,none⟩=some (.slice Ay (dg y.sz).length cy) from(by go_simp));refine av 8 (fun k=>match k with|6=>some (gRd (dg (nv (dg x.sz)+nv (dg y.sz))))|7=>some (gZ z)|_=>none) (fun k=>match k with|7=>[6]|_=>[]) (by kernel_rfl) (by kernel_rfl) ?_;apply Eb;apply Eb;apply Eb;apply Eb;apply Eb;apply Eb;apply Ef;apply Ef;refine⟨[],fun gg NN hN=>?_⟩;simp only[List.append_eq,List.cons_append,List.nil_append,List.take_succ_cons,List.take_zero,List.drop_succ_cons,List.drop_zero];(repeat (refine aj rfl ?_;go_big_quiet_step (first|exact rfl|(fail));refine wpQuiet_nil ⟨?hd,?_⟩;(case hd=>exact rfl)));(refine ag _ (by rfl) (by rfl) ?hex ?_;(case hex=>(intro px;refine ai (fn:=103) (by go_simp;rfl) ?_;exact jB _ _ _ _ _ (HSx.out.below (am HB.out px)) (HSy.out.below (am HB.out px)) (Nat.le_trans LX.out (by decide)) (Nat.le_trans LY.out (by decide))));simp only[Act.put,List.setIfInBounds_toArray,List.set_cons_succ,List.set_cons_zero]);(refine ag _ (by rfl) (by rfl) ?hex ?_;(case hex=>(intro px;have h:=px.has 6 (hN 7 6 (by simp)) _ rfl;obtain⟨As,cs,hg⟩:=Rd.form h;have h2:Rd px.w (gg 6) _:=h;rw[hg] at h2 ⊢;exact jI (by go_simp;rfl) ⟨_,by rw[HZN.out],by rw[HZA.out];exact h2⟩));simp only[Act.put,List.setIfInBounds_toArray,List.set_cons_succ,List.set_cons_zero]);refine aM ?_;intro w1 hb1' hh;have hb1:Below ((((w).alloc (Obj.cells #[.bool true,.bool false,.slice Ax (dg x.sz).length cx] 52)).alloc (Obj.cells #[.bool false,.bool false,.slice Ay (dg y.sz).length cy] 52)).alloc (Obj.cells #[.bool false,.bool false,.slice none 0 0] 52)).heap.size ((((w).alloc (Obj.cells #[.bool true,.bool false,.slice Ax (dg x.sz).length cx] 52)).alloc (Obj.cells #[.bool false,.bool false,.slice Ay (dg y.sz).length cy] 52)).alloc (Obj.cells #[.bool false,.bool false,.slice none 0 0] 52)) w1:=hb1';obtain⟨s2,e7,hs2⟩:=(show ZIs w1 (gg 7) z from hh 7 _ (by decide) rfl);obtain⟨A2,cap2,rfl⟩:=hs2.form;have HS2:=Lh hs2;rw[e7];clear hb1' hh hs2 e7 qx0 qx2 qy2;have z_w1:=hb1.size;(try simp at z_w1);have K_w1_0:=bq3 hb1 (w.heap.size);go_wp2_with fail;refine ak 3 #[.bool (decide (z<0)),.bool false,.slice A2 (dg z.natAbs).length cap2] rfl rfl rfl Tryz.underlying52 rfl (by kernel_rfl) rc3 ⟨⟨_,rfl,⟨_,rfl,HS2.out.res (by go_simp) (by go_simp) (by go_simp) _ _ _⟩⟩,ae⟩
theorem Ee (a b:Value) (x y:WI) (w:World) (hx:ap w a x) (hy:ap w b y) :
  Calls Tryz.prog 85 #[a,b] w fun e w'=>e = .returned (.tuple #[.int .i64 (x.cmp y).1,.bool (x.cmp y).2])∧Below w.heap.size w w':=by
 obtain⟨Ax,cx,rfl,hsx⟩:=hx.opened;have HSx:=Lh hsx;clear hsx hx;obtain⟨Ay,cy,rfl,hsy⟩:=hy.opened;have HSy:=Lh hsy;clear hsy hy;cases hox:x.ov with
 | true =>
  rw[WI.jl x y (.inl hox)];go_enter Tryz.func85,Tryz.ntmps85;go_wp2_with fail;go_ret2
  exact⟨rfl,ae⟩
 | false =>
  cases hoy:y.ov with
  | true =>
   rw[WI.jl x y (.inr hoy)];go_enter Tryz.func85,Tryz.ntmps85;go_wp2_with fail;go_ret2
   exact⟨rfl,ae⟩
  | false =>
   have HC:Hid (x.cmp y=((sgn x.ng x.sz-sgn y.ng y.sz).sign,true)):=by
    show _=_;unfold WI.cmp;rw[WI.br hox,WI.br hoy];simp only[];congr 1
    generalize sgn x.ng x.sz=m;generalize sgn y.ng y.sz=n;rcases Int.lt_trichotomy m n with h|h|h
    ·rw[if_pos h,Int.sign_eq_neg_one_of_neg (by omega)]
    ·subst h;simp
    ·rw[if_neg (by omega),if_pos h,Int.sign_eq_one_of_pos (by omega)]
   have HOX:=Lh hox;have HOY:=Lh hoy;clear hox hoy;go_enter Tryz.func85,Tryz.ntmps85;go_wp2_with fail;refine(Dc _ _ x y _ (by rw[← HOX.out];exact ap.mk (HSx.out.below ae)) (by rw[← HOY.out];exact ap.mk (HSy.out.below ae)) HOX.out HOY.out).mono ?_;rintro e w1 ⟨⟨v,rfl,hv⟩,hb1⟩;have z_w1:=hb1.size;(try simp at z_w1);have Kw1aa:=bq hb1 (w.heap.size);have Kw1ab:=bq hb1 (w.heap.size+1);have HV:=Lh hv;clear hv;go_wp2_with fail;refine(Df _ _ _ HV.out).mono ?_;rintro e w2 ⟨rfl,hb2⟩;have z_w2:=hb2.size;(try simp at z_w2);have K_w2_0:=bq2 hb2 (w.heap.size);go_wp2_with fail;go_ret2
   exact⟨by rw[HC.out];rfl,ae⟩
theorem xV (a b:Nat) (ha:a<18446744073709551616) (hb:b<18446744073709551616):bits .or .u64 (a:Int) (b:Int)=((a ||| b:Nat):Int):=by
 have hx:a ||| b<2^64:=Nat.or_lt_two_pow (by omega) (by omega)
 have h1:(BitVec.ofInt 64 (a:Int)).toNat=a:=by
  rw[BitVec.ofInt_natCast,BitVec.toNat_ofNat];exact Nat.mod_eq_of_lt (by omega)
 have h2:(BitVec.ofInt 64 (b:Int)).toNat=b:=by
  rw[BitVec.ofInt_natCast,BitVec.toNat_ofNat];exact Nat.mod_eq_of_lt (by omega)
 show IntKind.u64.wrap ((BitVec.ofInt 64 (a:Int) ||| BitVec.ofInt 64 (b:Int)).toNat:Int)=_;rw[BitVec.toNat_or,h1,h2,IntKind.wrap_u64];omega
theorem vF (x:Nat) (hx:x<4294967296):bits .or .u64 0 (x:Int)=(x:Int):=by
 have:=xV 0 x (by decide) (by omega);rw[Nat.zero_or] at this;exact this
theorem sK (x:WI) (A:Option Addr) (cap:Nat) (w:World) (ho:x.ov=false) (hs:Rd w (.slice A (dg x.sz).length cap) (dg x.sz)) (hl:(dg x.sz).length≤2) :
  Calls Tryz.prog 84 #[.agg #[.bool x.ng,.bool false,.slice A (dg x.sz).length cap]] w fun e w'=>e = .returned (.tuple #[.int .i64 x.i64.1,.bool x.i64.2])∧Below w.heap.size w w':=by
 have HI:=Lh (x.mE ho);have RX:=Lh (fun i hi=>hs.at' (n:=(dg x.sz).length) i hi);have HV:Hid (nvf (fun i=>(dg x.sz).getD i 0) (dg x.sz).length=x.sz):=pA _ _ (Nat.le_refl _);have hlt:=rs x.sz;have DX:Hid (∀ i,(dg x.sz).getD i 0<4294967296):=bI hs.1;obtain⟨f,hf⟩:∃ f:Nat→Nat,(fun i=>(dg x.sz).getD i 0)=f:=⟨_,rfl⟩;have hf':Hid (∀ i,(dg x.sz).getD i 0=f i):=fun i=>by rw[← hf]
 rw[hf] at HV;obtain⟨n,hn⟩:∃ n,(dg x.sz).length=n:=⟨_,rfl⟩;obtain⟨N,hN⟩:∃ N,x.sz=N:=⟨_,rfl⟩;rw[hn] at RX hl HV hlt ⊢;rw[hN] at HI hlt HV hf' DX RX;obtain⟨s,hsg⟩:∃ s,x.ng=s:=⟨_,rfl⟩;rw[hsg] at HI ⊢
 have hN64:N<18446744073709551616:=Nat.lt_of_lt_of_le hlt (by
  rw[show(18446744073709551616:Nat)=4294967296^2 from rfl];exact Nat.pow_le_pow_right (by decide) hl)
 have B0:=Lh (Blk.new w #[.bool s,.bool false,.slice A n cap] 52);have HB:=Lh ((Below.refl w.heap.size w).alloc (Nat.le_refl _) (.cells #[.bool s,.bool false,.slice A n cap] 52));clear hs hn hN hsg hf hlt;go_enter Tryz.func84,Tryz.ntmps84;go_wp2_with fail;go_loopw [4,18] (fun t4 t18 wr=>∃ i:Nat,i≤n∧t18 = .int .i64 i∧t4 = .int .u64 (nvf f i:Nat)∧Hid (Below w.heap.size w wr)∧Hid (Blk wr w.heap.size #[.bool s,.bool false,.slice A n cap] 52)) (fun _ t18 _=>n-(intOf t18).toNat)
 case atStart=>exact⟨0,Nat.zero_le _,rfl,rfl,HB,B0⟩
 case round =>
  obtain⟨i,hi,rfl,rfl,hb,q0⟩:=hrel;by_cases hlt:i<n
  ·obtain⟨b,o,rfl,hbb,cA,uA⟩:=RX.out i hlt;have cA':=(hb.out.cell (p:=⟨b,o+i,none⟩) hbb).trans cA;rw[hf'.out] at cA' uA;rcases i with _|_|i
   ·have h0:=vF (f 0) uA;have HN:Hid (nvf f 1=f 0):=by show 0+4294967296^0*f 0=f 0;omega
    have k1:(0:Int)<(n:Int):=by omega
    have hn1:Hid (1≤n):=by show 1≤n;omega
    have e0:nvf f 0=0:=rfl;rw[e0];obtain⟨v,hv⟩:∃ v,f 0=v:=⟨_,rfl⟩;rw[hv] at h0 HN cA' uA;rw[Nat.add_zero] at cA';clear cA hv e0 hi hlt;go_wp2_with fail;exact⟨⟨1,hn1.out,by first|rfl|go_num,by rw[HN.out],hb,q0⟩,by simp[intOf];omega⟩
   ·rw[Nat.zero_add] at *
    have hu:nvf f 1<4294967296:=by
     have:=jD f (fun k=>by rw[← hf'.out];exact DX.out k) 1;simpa using this
    have h0:=kj (nvf f 1) (f 1) hu uA;rw[show IntKind.u64.wrap (((f 1:Nat):Int)*4294967296)=((f 1:Nat):Int)*4294967296 by rw[IntKind.wrap_u64];omega] at h0;have HN:Hid (nvf f 2=nvf f 1+4294967296*f 1):=by show nvf f 1+4294967296^1*f 1=_;omega
    have k1:(1:Int)<(n:Int):=by omega
    have hn1:Hid (2≤n):=by show 2≤n;omega
    obtain⟨v,hv⟩:∃ v,f 1=v:=⟨_,rfl⟩;obtain⟨u,hu1⟩:∃ u,nvf f 1=u:=⟨_,rfl⟩;rw[hv] at h0 HN cA' uA;rw[hu1] at h0 HN hu ⊢;clear cA hv hu1 hi hlt;go_wp2_with fail;exact⟨⟨2,hn1.out,by first|rfl|go_num,by rw[HN.out,Int.natCast_add,Int.natCast_mul];rfl,hb,q0⟩,by simp[intOf];omega⟩
   ·omega
  ·obtain rfl:i=n:=by omega
   have k1:¬ (i:Int)<(i:Int):=by omega
   have e0:wr.cell? ⟨w.heap.size,0,none⟩=some (.bool s):=q0.out.cell (i:=0) rfl;rw[HV.out];cases s with
   | true =>
    by_cases hbig:N≤9223372036854775808
    · have HR : Hid (x.i64 = (-(N : Int), true)) := by
        show _=_;rw[HI.out,if_pos (by first|omega|(simp;omega))];rfl
      have c1:¬ (9223372036854775808:Int)<(N:Int):=by omega
      have c2:IntKind.i64.wrap (IntKind.u64.wrap (-(N:Int))) = -(N:Int):=by rw[IntKind.wrap_u64,IntKind.wrap_i64];omega
      have c3:wrap64 (IntKind.u64.wrap (-(N:Int))) = -(N:Int):=by rw[IntKind.wrap_u64];unfold wrap64;omega
      clear hbig;go_wp2_with fail;go_ret2
      exact⟨by rw[HR.out];rfl,hb.out⟩
    · have HR : Hid (x.i64 = (0, false)) := by
        show _=_;rw[HI.out,if_neg (by first|omega|(simp;omega))]
      have c1:(9223372036854775808:Int)<(N:Int):=by omega
      clear hbig;go_wp2_with fail;go_ret2
      exact⟨by rw[HR.out];rfl,hb.out⟩
   | false =>
    by_cases hbig:N<9223372036854775808
    · have HR : Hid (x.i64 = ((N : Int), true)) := by
        show _=_;rw[HI.out,if_pos (by first|omega|(simp;omega))];rfl
      have c1:¬ (9223372036854775808:Int)≤(N:Int):=by omega
      have c3:wrap64 (N:Int)=(N:Int):=by unfold wrap64;omega
      clear hbig;go_wp2_with fail;go_ret2
      exact⟨by rw[HR.out];rfl,hb.out⟩
    · have HR : Hid (x.i64 = (0, false)) := by
        show _=_;rw[HI.out,if_neg (by simp;omega)]
      have c1:(9223372036854775808:Int)≤(N:Int):=by omega
      clear hbig;go_wp2_with fail;go_ret2
      exact⟨by rw[HR.out];rfl,hb.out⟩
theorem lc (v:Value) (x:WI) (w:World) (hv:ap w v x) :
  Calls Tryz.prog 84 #[v] w fun e w'=>e = .returned (.tuple #[.int .i64 x.i64.1,.bool x.i64.2])∧Below w.heap.size w w':=by
 obtain⟨A,cap,rfl,hs⟩:=hv.opened;cases ho:x.ov with
 | true =>
  have HR:=Lh (WI.qV x ho);clear hs hv;go_enter Tryz.func84,Tryz.ntmps84;go_wp2_with fail;go_ret2
  exact⟨by rw[HR.out];rfl,ae⟩
 | false =>
  by_cases hl:(dg x.sz).length≤2
  ·exact sK x A cap w ho hs hl
  · have HR : Hid (x.i64 = (0, false)) := by
      show _=_;rw[x.mE ho,if_neg];have:¬ x.sz<4294967296^2:=fun h=>hl (dF _ _ h);omega
    have hl2:(2:Int)<((dg x.sz).length:Int):=by omega
    clear hs hv hl;go_enter Tryz.func84,Tryz.ntmps84;go_wp2_with fail;go_ret2
    exact⟨by rw[HR.out];rfl,ae⟩
theorem qS (m:Nat) (h:m≤9223372036854775807):(WI.of (m:Int)).sqrt=(WI.of (rt m:Nat),0)∧(WI.of ((rt m:Nat):Int)).i64=(((rt m:Nat):Int),true):=by
 have h1:=xp m;refine⟨WI.po m (fB (by omega)),?_⟩;rw[WI.xW _ (by rw[Int.natAbs_natCast];exact fB (by omega)),if_pos (by omega)]
theorem mD (n:Int) (h1 : -9223372036854775808≤n) (h2:n≤9223372036854775807) (w:World) :
  Calls Tryz.prog 127 #[.int .i64 n] w fun e w'=>e = .returned (.int .i64 ((rt n.toNat:Nat):Int))∧Below w.heap.size w w':=by
 by_cases hn:n<1
 ·rw[show n.toNat=0 by omega,Ft];go_enter Tryz.func127,Tryz.ntmps127;go_wp2_with fail;go_ret;exact⟨rfl,ae⟩
 ·obtain⟨m,rfl⟩:∃ m:Nat,n=m:=⟨n.toNat,by omega⟩;rw[Int.toNat_natCast];obtain⟨hs,hi⟩:=qS m (by omega);obtain⟨y,hy⟩:∃ y,WI.of ((rt m:Nat):Int)=y:=⟨_,rfl⟩;rw[hy] at hs hi;have HS:=Lh hs;have HI:=Lh hi;obtain⟨r,hr⟩:∃ r:Nat,rt m=r:=⟨_,rfl⟩;rw[hr] at HI ⊢;clear hs hi hy hr;go_enter Tryz.func127,Tryz.ntmps127;go_wp2_with fail;refine(gc _ h1 h2 _).mono ?_;rintro e w1 ⟨⟨v,rfl,hv⟩,hb1⟩;go_wp2_with fail;refine Calls.mono (tQ _ _ _ hv) ?_;rw[HS.out];rintro e w2 ⟨⟨v2,rfl,hv2⟩,hb2⟩;obtain⟨A,c,rfl,hs2⟩:=hv2.opened;have HS2:=Lh hs2;have HB2:Hid (Below w.heap.size w w2):=hb1.trans (hb2.mono hb1.size);clear hb1 hb2 hv hv2 hs2;go_wp2_with fail;refine(lc _ y _ (ap.mk (HS2.out.below ae))).mono ?_;rw[HI.out];rintro e w3 ⟨rfl,hb3⟩;have HB3:Hid (Below w.heap.size w w3):=(HB2.out.alloc HB2.out.size _).trans (hb3.mono (by have:=HB2.out.size;simp;omega));clear hb3;go_wp2_with fail;go_ret;exact⟨rfl,HB3.out⟩
theorem Fa (n:Int) (h1 : -9223372036854775808≤n) (h2:n≤9223372036854775807) (w:World) :
  Calls Tryz.prog 78 #[.int .i64 n] w fun e w'=>e = .returned (.int .i64 ((up n.toNat:Nat):Int))∧Below w.heap.size w w':=by
 obtain⟨m,hm⟩:∃ m,n.toNat=m:=⟨_,rfl⟩;obtain⟨r,hr⟩:∃ r,rt m=r:=⟨_,rfl⟩;have h3:up m=if r*r<m then r+1 else r:=by unfold up;rw[hr]
 have h4:=(fJ m).1;rw[hr] at h4
 have h5:r≤3037000499:=by
  rcases Nat.lt_or_ge 3037000499 r with h|h
  ·have:=Nat.mul_le_mul h h;omega
  ·exact h
 have HR:Hid (rt n.toNat=r):=by show _=_;rw[hm,hr]
 obtain⟨q,hq⟩:∃ q,r*r=q:=⟨_,rfl⟩;have hqi:(r:Int)*(r:Int)=(q:Int):=by rw[← hq];exact(Int.natCast_mul r r).symm
 rw[hq] at h3 h4;have hq63:q≤9223372036854775807:=by omega
 have kw:wrap64 (q:Int)=(q:Int):=by unfold wrap64;omega
 have HU:Hid (up n.toNat=if q<m then r+1 else r):=by show _=_;rw[hm,h3]
 rw[HU.out];clear h3 hr hq HU;by_cases hn:0<n
 ·by_cases hlt:q<m
  ·rw[if_pos hlt];have k1:(q:Int)<n:=by omega
   have k2:decide (wrap64 (q:Int)<n)=true:=by rw[kw];exact decide_eq_true k1
   clear kw hq63 h4;clear hlt hm;go_enter Tryz.func78,Tryz.ntmps78;go_wp2_with fail;refine(mD _ h1 h2 _).mono ?_;rw[HR.out];rintro e w1 ⟨rfl,hb1⟩;go_wp2_with fail;go_ret;exact⟨by first|rfl|(congr 2;omega),hb1⟩
  ·rw[if_neg hlt];have k1:¬ (q:Int)<n:=by omega
   have k2:decide (wrap64 (q:Int)<n)=false:=by rw[kw];exact decide_eq_false k1
   clear kw hq63 h4;clear hlt hm;go_enter Tryz.func78,Tryz.ntmps78;go_wp2_with fail;refine(mD _ h1 h2 _).mono ?_;rw[HR.out];rintro e w1 ⟨rfl,hb1⟩;go_wp2_with fail;go_ret;exact⟨rfl,hb1⟩
 ·rw[if_neg (by omega)];clear hm;go_enter Tryz.func78,Tryz.ntmps78;go_wp2_with fail;refine(mD _ h1 h2 _).mono ?_;rw[HR.out];rintro e w1 ⟨rfl,hb1⟩;go_wp2_with fail;go_ret;exact⟨rfl,hb1⟩
theorem pB (a b c:Int) (ha:Sm 63 a) (hb:Sm 63 b) (hc:Sm 63 c) (h0:c≠0):∃ q n ok,((WI.of a).mul (WI.of b)).div (WI.of c)=(q,0)∧q.i64=(n,ok)∧du a b c=(if ok=true then (n,0) else (0,2)):=by
 have hab:=ha.mul hb
 have h:((WI.of a).mul (WI.of b)).div (WI.of c)=(WI.of ((a*b).fdiv c),0):=by
  rw[WI.au (ha.lim (by decide)) (hb.lim (by decide)),WI.pr _ _ (hab.lim (by decide)) (hc.lim (by decide)) h0]
 refine⟨_,(WI.of ((a*b).fdiv c)).i64.1,(WI.of ((a*b).fdiv c)).i64.2,h,rfl,?_⟩;unfold du aV;rw[h,if_neg (by simp)]
theorem mu (a b c:Int) (ha:Sm 63 a) (hb:Sm 63 b) (hc:Sm 63 c) (h0:c≠0):∃ q n ok,(((WI.of a).mul (WI.of b)).neg).div (WI.of c)=(q,0)∧q.neg.i64=(n,ok)∧cn a b c=(if ok=true then (n,0) else (0,2)):=by
 have hab:=ha.mul hb
 have h:(((WI.of a).mul (WI.of b)).neg).div (WI.of c)=(WI.of ((-(a*b)).fdiv c),0):=by
  rw[WI.au (ha.lim (by decide)) (hb.lim (by decide)),WI.of_neg (hab.lim (by decide)),WI.pr _ _ (hab.neg.lim (by decide)) (hc.lim (by decide)) h0]
 refine⟨_,(WI.of ((-(a*b)).fdiv c)).neg.i64.1,(WI.of ((-(a*b)).fdiv c)).neg.i64.2,h,rfl,?_⟩;unfold cn aV dh;rw[h,if_neg (by simp)]
theorem vN (a b c:Int) (ha : -9223372036854775808≤a∧a≤9223372036854775807) (hb : -9223372036854775808≤b∧b≤9223372036854775807) (hc : -9223372036854775808≤c∧c≤9223372036854775807) (w:World) :
  Calls Tryz.prog 149 #[.int .i64 a,.int .i64 b,.int .i64 c] w fun e w'=>e = .returned (.tuple #[.int .i64 (du a b c).1,.int .i64 (du a b c).2])∧Below w.heap.size w w':=by
 by_cases h0:c=0
 ·subst h0;rw[nX a b 0 (Sm.of64 ha.1 ha.2) (Sm.of64 hb.1 hb.2) (Sm.of64 hc.1 hc.2),if_pos rfl];go_enter Tryz.func149,Tryz.ntmps149;go_wp2_with fail;go_ret2
  exact⟨rfl,ae⟩
 ·obtain⟨q,n,ok,hq,hn,hV⟩:=pB a b c (Sm.of64 ha.1 ha.2) (Sm.of64 hb.1 hb.2) (Sm.of64 hc.1 hc.2) h0;rw[hV];have HQ:=Lh hq;have HN:=Lh hn;have HA:=Lh ha;have HB:=Lh hb;have HC:=Lh hc;clear hq hn hV ha hb hc;go_enter Tryz.func149,Tryz.ntmps149;go_wp2_with fail;refine(gc a HA.out.1 HA.out.2 _).mono ?_;rintro e w1 ⟨⟨v1,rfl,hv1⟩,hb1⟩;go_wp2_with fail;refine(gc b HB.out.1 HB.out.2 _).mono ?_;rintro e w2 ⟨⟨v2,rfl,hv2⟩,hb2⟩;go_wp2_with fail;refine(mt _ _ _ _ _ (hv1.below hb2) hv2).mono ?_;rintro e w3 ⟨⟨v3,rfl,hv3⟩,hb3⟩;have HB3:Hid (Below w.heap.size w w3):=(hb1.trans (hb2.mono hb1.size)).trans (hb3.mono (Nat.le_trans hb1.size hb2.size));clear hv1 hv2 hb1 hb2 hb3;go_wp2_with fail;refine(gc c HC.out.1 HC.out.2 _).mono ?_;rintro e w4 ⟨⟨v4,rfl,hv4⟩,hb4⟩;go_wp2_with fail;refine Calls.mono (tB _ _ _ _ _ (hv3.below hb4) hv4) ?_;rw[HQ.out];rintro e w5 ⟨⟨v5,rfl,hv5⟩,hb5⟩;have HB5:Hid (Below w.heap.size w w5):=(HB3.out.trans (hb4.mono HB3.out.size)).trans (hb5.mono (Nat.le_trans HB3.out.size hb4.size));obtain⟨A,cc,rfl,hs5⟩:=hv5.opened;have HS5:=Lh hs5;clear hv3 hv4 hv5 hs5 hb4 hb5 HB3;go_wp2_with fail;refine(lc _ q _ (ap.mk (HS5.out.below ae))).mono ?_;rw[HN.out];rintro e w7 ⟨rfl,hb7⟩;have HB7:Hid (Below w.heap.size w w7):=(HB5.out.alloc HB5.out.size _).trans (hb7.mono (by have:=HB5.out.size;simp;omega));clear hb7;cases ok with
  | true =>
   go_wp2_with fail;go_ret2
   exact⟨rfl,HB7.out⟩
  | false =>
   go_wp2_with fail;go_ret2
   exact⟨rfl,HB7.out⟩
theorem qJ (a b c:Int) (ha : -9223372036854775808≤a∧a≤9223372036854775807) (hb : -9223372036854775808≤b∧b≤9223372036854775807) (hc : -9223372036854775808≤c∧c≤9223372036854775807) (w:World) :
  Calls Tryz.prog 148 #[.int .i64 a,.int .i64 b,.int .i64 c] w fun e w'=>e = .returned (.tuple #[.int .i64 (cn a b c).1,.int .i64 (cn a b c).2])∧Below w.heap.size w w':=by
 by_cases h0:c=0
 ·subst h0;rw[kz a b 0 (Sm.of64 ha.1 ha.2) (Sm.of64 hb.1 hb.2) (Sm.of64 hc.1 hc.2),if_pos rfl];go_enter Tryz.func148,Tryz.ntmps148;go_wp2_with fail;go_ret2
  exact⟨rfl,ae⟩
 ·obtain⟨q,n,ok,hq,hn,hV⟩:=mu a b c (Sm.of64 ha.1 ha.2) (Sm.of64 hb.1 hb.2) (Sm.of64 hc.1 hc.2) h0;rw[hV];have HQ:=Lh hq;have HN:=Lh hn;have HA:=Lh ha;have HB:=Lh hb;have HC:=Lh hc;clear hq hn hV ha hb hc;go_enter Tryz.func148,Tryz.ntmps148;go_wp2_with fail;refine(gc a HA.out.1 HA.out.2 _).mono ?_;rintro e w1 ⟨⟨v1,rfl,hv1⟩,hb1⟩;go_wp2_with fail;refine(gc b HB.out.1 HB.out.2 _).mono ?_;rintro e w2 ⟨⟨v2,rfl,hv2⟩,hb2⟩;go_wp2_with fail;refine(mt _ _ _ _ _ (hv1.below hb2) hv2).mono ?_;rintro e w3 ⟨⟨v3,rfl,hv3⟩,hb3⟩;have HB3:Hid (Below w.heap.size w w3):=(hb1.trans (hb2.mono hb1.size)).trans (hb3.mono (Nat.le_trans hb1.size hb2.size));clear hv1 hv2 hb1 hb2 hb3;go_wp2_with fail;refine(uc _ _ _ hv3).mono ?_;rintro e w3' ⟨⟨v3',rfl,hv3'⟩,hb3'⟩;replace HB3:Hid (Below w.heap.size w w3'):=HB3.out.trans (hb3'.mono HB3.out.size);clear hv3 hb3';go_wp2_with fail;refine(gc c HC.out.1 HC.out.2 _).mono ?_;rintro e w4 ⟨⟨v4,rfl,hv4⟩,hb4⟩;go_wp2_with fail;refine Calls.mono (tB _ _ _ _ _ (hv3'.below hb4) hv4) ?_;rw[HQ.out];rintro e w5 ⟨⟨v5,rfl,hv5⟩,hb5⟩;have HB5:Hid (Below w.heap.size w w5):=(HB3.out.trans (hb4.mono HB3.out.size)).trans (hb5.mono (Nat.le_trans HB3.out.size hb4.size));obtain⟨A,cc,rfl,hs5⟩:=hv5.opened;have HS5:=Lh hs5;clear hv3' hv4 hv5 hs5 hb4 hb5 HB3;go_wp2_with fail;refine(uc _ q _ (ap.mk (HS5.out.below ae))).mono ?_;rintro e w6 ⟨⟨v6,rfl,hv6⟩,hb6⟩;have HB6:Hid (Below w.heap.size w w6):=(HB5.out.alloc HB5.out.size _).trans (hb6.mono (by have:=HB5.out.size;simp;omega));clear hb6;go_wp2_with fail;refine(lc _ q.neg _ hv6).mono ?_;rw[HN.out];rintro e w7 ⟨rfl,hb7⟩;have HB7:Hid (Below w.heap.size w w7):=HB6.out.trans (hb7.mono HB6.out.size);clear hb7 HB6 hv6;cases ok with
  | true =>
   go_wp2_with fail;go_ret2
   exact⟨rfl,HB7.out⟩
  | false =>
   go_wp2_with fail;go_ret2
   exact⟨rfl,HB7.out⟩
end Go.Proofs.YtnoidlacjiafdaaGreat
