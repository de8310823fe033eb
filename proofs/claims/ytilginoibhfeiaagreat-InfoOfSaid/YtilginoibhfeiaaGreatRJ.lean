/- Laws and walks that the claim names. -/
import Derived.Test.YtilginoibhfeiaaGreatRC
import Derived.Test.YtilginoibhfeiaaGreatRF
import Derived.Test.YtilginoibhfeiaaGreatYl
set_option maxRecDepth 100000
set_option maxHeartbeats 16000000
namespace Go.Proofs.YtilginoibhfeiaaGreat
open Go.RowKit
set_option linter.unusedSimpArgs false
theorem row_ltH {w:World} {b o n:Nat} {cs:Array Value} (h:w.row? b o n=some cs):b<w.heap.size:=by
 unfold World.row? at h
 split at h
 ·rename_i c t fr hb;exact (Array.getElem?_eq_some_iff.1 hb).1
 ·cases h
theorem inh_row {w:World} {b o n:Nat} {cs:Array Value} (h:w.row? b o n=some cs) {fr:Nat→Option Ghost} {g:Nat→Value} {N:List Nat} (p:Inh w.drew fr g N):p.w.row? b o n=some cs:=by
 have hb:Below w.heap.size w p.w:=⟨p.low.os,p.low.tape,p.low.output,p.low.size,p.low.block⟩
 rw [Below.row? hb b o n (row_ltH h)];exact h
theorem ghost_val {P:Program} {f:Ghost} {w:World} {r:Result Next} {v:Value} (hr:r = .ok (.value v) w) (h:f.holds w v) (hf:∀ v,f.own v=none:=by intro _;rfl):ghostUpon P f w r:=by
 subst hr
 exact ⟨h,Below.refl _ _,fun b hb=>by rw [hf v] at hb;cases hb⟩
def gZ (z:Int):Ghost:={ holds:=fun w v=>ZIs w v z,stable:=fun h hb=>h.below hb }
theorem sign_z (v:Value) (z:Int) (w:World) (hz:ZIs w v z) :
  Calls Tryz.prog 72 #[v] w fun e w'=>e = .returned (.int .i64 z.sign)∧Below w.heap.size w w':=by
 obtain ⟨s,rfl,hr⟩:=hz
 obtain ⟨A,cap,rfl⟩:=hr.form
 have hl:(dg z.natAbs).length=0↔z=0:=by rw [List.length_eq_zero_iff,dg_nil];omega
 clear hr
 rcases Int.lt_trichotomy z 0 with h|h|h
 ·have e:Hid (z.sign = -1):=Int.sign_eq_neg_one_of_neg h
  have hz:¬ (dg z.natAbs).length=0:=fun h'=>by have:=hl.1 h';omega
  have hd:decide (z<0)=true:=by simp [h]
  rw [hd]
  clear hl h hd
  go_enter Tryz.func72,Tryz.ntmps72
  go_wp2_with fail
  go_ret
  exact ⟨ret_int e.out.symm,below_by⟩
 ·subst h
  have hz:(dg (0:Int).natAbs).length=0:=hl.2 rfl
  rw [hz]
  clear hl hz
  go_enter Tryz.func72,Tryz.ntmps72
  go_wp2_with fail
  go_ret
  exact ⟨rfl,below_by⟩
 ·have e:Hid (z.sign=1):=Int.sign_eq_one_of_pos h
  have hz:¬ (dg z.natAbs).length=0:=fun h'=>by have:=hl.1 h';omega
  have hd:decide (z<0)=false:=by simp;omega
  rw [hd]
  clear hl h hd
  go_enter Tryz.func72,Tryz.ntmps72
  go_wp2_with fail
  go_ret
  exact ⟨ret_int e.out.symm,below_by⟩
theorem sgn_neg (n:Bool) (N:Nat):decide (sgn n N<0)=(n&&decide (N≠0)):=by
 unfold sgn
 cases n
 ·simp
 ·rw [Bool.true_and,decide_eq_decide];simp;omega
theorem sub2_r (a b:Value) (x y:WI) (w:World) (hx:BigIs w a x) (hy:BigIs w b y) (hox:x.ov=false) (hoy:y.ov=false) :
  Calls Tryz.prog 167 #[a,b] w fun e w'=>(∃ v,e = .returned v∧ZIs w' v (sgn x.ng x.sz-sgn y.ng y.sz))∧Below w.heap.size w w':=by
 obtain ⟨Ax,cx,rfl,hsx⟩:=hx.opened
 have HSx:=Lib.hid hsx
 clear hsx hx
 obtain ⟨Ay,cy,rfl,hsy⟩:=hy.opened
 have HSy:=Lib.hid hsy
 clear hsy hy
 rw [hox,hoy]
 have LX:=Lib.hid (dg_few x)
 have LY:=Lib.hid (dg_few y)
 obtain ⟨z,hz⟩:∃ z,z=sgn x.ng x.sz-sgn y.ng y.sz:=⟨_,rfl⟩
 rw [← hz]
 have HZ:=Lib.hid hz
 clear hz hox hoy
 by_cases hn:x.ng=y.ng
 ·obtain ⟨n,hxn⟩:∃ n,x.ng=n:=⟨_,rfl⟩
  have hyn:y.ng=n:=by rw [← hn,hxn]
  rw [hxn,hyn] at HZ ⊢
  clear hn hxn hyn
  by_cases hle:y.sz≤x.sz
  ·have e0:z=sgn n (x.sz-y.sz):=by rw [HZ.out];unfold sgn;split <;> omega
   have HZN:Hid (decide (z<0)=(n&&decide (x.sz-y.sz≠0))):=by rw [e0];exact sgn_neg _ _
   have HZA:Hid (dg z.natAbs=dg (nv (dg x.sz)-nv (dg y.sz))):=by show _=_;rw [e0,sgn_abs,nv_dg,nv_dg]
   have HLE:Hid (nv (dg y.sz)≤nv (dg x.sz)):=by rw [nv_dg,nv_dg];exact hle
   have HLL:Hid ((dg y.sz).length≤(dg x.sz).length):=dg_len_mono hle
   have hc:(0:Int)≤cmpD x.sz y.sz:=cmpD_ge hle
   have HDZ:Hid ((dg z.natAbs).length=0↔x.sz-y.sz=0):=by
    show _↔_
    rw [HZA.out,nv_dg,nv_dg,List.length_eq_zero_iff,dg_nil]
   clear hle e0
   go_enter Tryz.func167,Tryz.ntmps167
   go_wp2_with fail
   refine (cmp_r _ _ _ _ _ (HSx.out.below below_by) (HSy.out.below below_by)).mono ?_
   rintro e w0 ⟨rfl,hb0⟩;have z_w0:=hb0.size;(try simp at z_w0);obtain ⟨yw0aa,cw0aa,fw0aa,rw0aa,tw0aa,pw0aa⟩:=bq hb0 (w.heap.size);obtain ⟨yw0ab,cw0ab,fw0ab,rw0ab,tw0ab,pw0ab⟩:=bq hb0 (w.heap.size+1);obtain ⟨yw0ac,cw0ac,fw0ac,rw0ac,tw0ac,pw0ac⟩:=bq hb0 (w.heap.size+1+1)
   go_wp2_with fail
   refine (minus_r _ _ _ _ _ (HSx.out.below below_by) (HSy.out.below below_by) (Nat.le_trans LX.out (by decide)) HLL.out HLE.out).mono ?_
   rintro e w1 ⟨⟨s,rfl,hs⟩,hb1⟩;have z_w1:=hb1.size;(try simp at z_w1);obtain ⟨yw1aa,cw1aa,fw1aa,rw1aa,tw1aa,pw1aa⟩:=bq hb1 (w.heap.size);obtain ⟨yw1ab,cw1ab,fw1ab,rw1ab,tw1ab,pw1ab⟩:=bq hb1 (w.heap.size+1);obtain ⟨yw1ac,cw1ac,fw1ac,rw1ac,tw1ac,pw1ac⟩:=bq hb1 (w.heap.size+1+1)
   rw [← HZA.out] at hs
   obtain ⟨A2,c2,rfl⟩:=hs.form
   have HS:=Lib.hid hs
   clear hs
   cases n with
   | false =>
    have E:Hid (decide (z<0)=false):=by show _=_;rw [HZN.out];rfl
    go_wp2_with fail
    refine bodyPost_row 3 #[.bool false,.bool false,.slice A2 (dg z.natAbs).length c2] rfl rfl rfl Tryz.underlying65 rfl (by kernel_rfl) (rc3 (by go_simp) (by go_simp) (by go_simp)) ⟨⟨_,rfl,⟨_,by rw [E.out],(HS.out.below below_by).res (by go_simp) (by go_simp) (by go_simp) _ _ _⟩⟩,below_by⟩
   | true =>
    by_cases h0:(dg z.natAbs).length=0
    ·have E:Hid (decide (z<0)=false):=by show _=_;rw [HZN.out,HDZ.out.1 h0];rfl
     rw [h0] at HS ⊢
     go_wp2_with fail
     refine bodyPost_row 3 #[.bool false,.bool false,.slice A2 0 c2] rfl rfl rfl Tryz.underlying65 rfl (by kernel_rfl) (rc3 (by go_simp) (by go_simp) (by go_simp)) ⟨⟨_,rfl,⟨_,by rw [E.out],(HS.out.below below_by).res (by go_simp) (by go_simp) (by go_simp) _ _ _⟩⟩,below_by⟩
    · have E : Hid (decide (z < 0) = true) := by
        show _=_
        rw [HZN.out,Bool.true_and]
        exact decide_eq_true (fun h=>h0 (HDZ.out.2 h))
      have h1:0<(dg z.natAbs).length:=by omega
      go_wp2_with fail
      refine bodyPost_row 3 #[.bool true,.bool false,.slice A2 (dg z.natAbs).length c2] rfl rfl rfl Tryz.underlying65 rfl (by kernel_rfl) (rc3 (by go_simp) (by go_simp) (by go_simp)) ⟨⟨_,rfl,⟨_,by rw [E.out],(HS.out.below below_by).res (by go_simp) (by go_simp) (by go_simp) _ _ _⟩⟩,below_by⟩
  ·have e0:z=sgn (!n) (y.sz-x.sz):=by rw [HZ.out];unfold sgn;cases n <;> simp <;> omega
   have HZN:Hid (decide (z<0) = !n):=by
    show _=_
    rw [e0,sgn_neg,decide_eq_true (show y.sz-x.sz≠0 by omega),Bool.and_true]
   have HZA:Hid (dg z.natAbs=dg (nv (dg y.sz)-nv (dg x.sz))):=by show _=_;rw [e0,sgn_abs,nv_dg,nv_dg]
   have HLE:Hid (nv (dg x.sz)≤nv (dg y.sz)):=by rw [nv_dg,nv_dg];show _≤_;omega
   have HLL:Hid ((dg x.sz).length≤(dg y.sz).length):=dg_len_mono (by omega)
   have hc:¬ (0:Int)≤cmpD x.sz y.sz:=cmpD_not_ge hle
   clear hle e0
   go_enter Tryz.func167,Tryz.ntmps167
   go_wp2_with fail
   refine (cmp_r _ _ _ _ _ (HSx.out.below below_by) (HSy.out.below below_by)).mono ?_
   rintro e w0 ⟨rfl,hb0⟩;have z_w0:=hb0.size;(try simp at z_w0);obtain ⟨yw0aa,cw0aa,fw0aa,rw0aa,tw0aa,pw0aa⟩:=bq hb0 (w.heap.size);obtain ⟨yw0ab,cw0ab,fw0ab,rw0ab,tw0ab,pw0ab⟩:=bq hb0 (w.heap.size+1);obtain ⟨yw0ac,cw0ac,fw0ac,rw0ac,tw0ac,pw0ac⟩:=bq hb0 (w.heap.size+1+1)
   go_wp2_with fail
   have HB:Hid (Below w.heap.size w w0.drew):=below_by
   have qx0:=@inh_cell _ _ _ (show (w0).cell? ⟨w.heap.size,0,none⟩=some (.bool n) from (by go_simp))
   have qx2:=@inh_cell _ _ _ (show (w0).cell? ⟨w.heap.size,2,none⟩=some (.slice Ax (dg x.sz).length cx) from (by go_simp))
   have qy2:=@inh_cell _ _ _ (show (w0).cell? ⟨w.heap.size+1,2,none⟩=some (.slice Ay (dg y.sz).length cy) from (by go_simp))
   refine wp_region_ghost' 9 (fun k=>match k with|7=>some (gRd (dg (nv (dg y.sz)-nv (dg x.sz))))|8=>some (gZ z)|_=>none) (fun k=>match k with|8=>[7]|_=>[]) (by kernel_rfl) (by kernel_rfl) ?_;refine ex_listH ?_;apply Exists.intro;refine ex_listH ?_;apply Exists.intro;refine ex_listH ?_;apply Exists.intro;refine ex_listH ?_;apply Exists.intro;refine ex_listH ?_;apply Exists.intro;refine ex_listH ?_;apply Exists.intro;refine ex_listH ?_;apply Exists.intro;refine ex_listH ⟨undef,?_⟩;refine ex_listH ⟨undef,?_⟩;refine ⟨[],fun gg NN hN=>?_⟩;simp only [List.append_eq,List.cons_append,List.nil_append,List.take_succ_cons,List.take_zero,List.drop_succ_cons,List.drop_zero];(repeat (refine lexH_quiet rfl ?_;go_big_quiet_step (first|exact rfl|(fail));refine wpQuiet_nil ⟨?hd,?_⟩;(case hd=>exact rfl)));(refine lexH_ghost _ (by rfl) (by rfl) ?hex ?_;(case hex=>(intro px;refine ghost_call (fn:=162) (by go_simp;rfl) ?_;exact minus_r _ _ _ _ _ (HSy.out.below (inh_low HB.out px)) (HSx.out.below (inh_low HB.out px)) (Nat.le_trans LY.out (by decide)) HLL.out HLE.out));simp only [Act.put,List.setIfInBounds_toArray,List.set_cons_succ,List.set_cons_zero]);(refine lexH_ghost _ (by rfl) (by rfl) ?hex ?_;(case hex=>(intro px;have h:=px.has 7 (hN 8 7 (by simp)) _ rfl;obtain ⟨As,cs,hg⟩:=Rd.form h;have h2:Rd px.w (gg 7) _:=h;rw [hg] at h2 ⊢;exact ghost_val (by go_simp;rfl) ⟨_,by rw [HZN.out],by rw [HZA.out];exact h2⟩));simp only [Act.put,List.setIfInBounds_toArray,List.set_cons_succ,List.set_cons_zero])
   refine lexH_nil ?_
   intro w1 hb1' hh
   have hb1:Below (w0).heap.size (w0) w1:=hb1'
   obtain ⟨s2,e7,hs2⟩:=(show ZIs w1 (gg 8) z from hh 8 _ (by decide) rfl)
   obtain ⟨A2,cap2,rfl⟩:=hs2.form
   have HS2:=Lib.hid hs2
   rw [e7]
   clear hb1' hh hs2 e7 qx0 qx2 qy2
   have z_w1:=hb1.size;(try simp at z_w1);obtain ⟨yw1aa,cw1aa,fw1aa,rw1aa,tw1aa,pw1aa⟩:=bq hb1 (w.heap.size);obtain ⟨yw1ab,cw1ab,fw1ab,rw1ab,tw1ab,pw1ab⟩:=bq hb1 (w.heap.size+1);obtain ⟨yw1ac,cw1ac,fw1ac,rw1ac,tw1ac,pw1ac⟩:=bq hb1 (w.heap.size+1+1)
   go_wp2_with fail
   refine bodyPost_row 3 #[.bool (decide (z<0)),.bool false,.slice A2 (dg z.natAbs).length cap2] rfl rfl rfl Tryz.underlying65 rfl (by kernel_rfl) (rc3 (by go_simp) (by go_simp) (by go_simp)) ⟨⟨_,rfl,⟨_,rfl,HS2.out.res (by go_simp) (by go_simp) (by go_simp) _ _ _⟩⟩,below_by⟩
 · have hor : (x.ng = false ∧ y.ng = true) ∨ (x.ng = true ∧ y.ng = false) := by
     cases hx:x.ng <;> cases hy:y.ng
     ·exact absurd (hx.trans hy.symm) hn
     ·exact .inl ⟨rfl,rfl⟩
     ·exact .inr ⟨rfl,rfl⟩
     ·exact absurd (hx.trans hy.symm) hn
   have hnz:=WI.ng_sz x
   clear hn
   rcases hor with ⟨hx,hy⟩|⟨hx,hy⟩
   ·rw [hx,hy] at HZ ⊢
    have e0:z=sgn false (x.sz+y.sz):=by rw [HZ.out];unfold sgn;simp
    have HZN:Hid (decide (z<0)=false):=by
     show _=_
     rw [e0,sgn_neg]
     rfl
    have HZA:Hid (dg z.natAbs=dg (nv (dg x.sz)+nv (dg y.sz))):=by show _=_;rw [e0,sgn_abs,nv_dg,nv_dg]
    clear e0 hx hy hnz
    go_enter Tryz.func167,Tryz.ntmps167
    go_wp2_with fail
    have HB:Hid (Below w.heap.size w ((((w).alloc (Obj.cells #[.bool false,.bool false,.slice Ax (dg x.sz).length cx] 65)).alloc (Obj.cells #[.bool true,.bool false,.slice Ay (dg y.sz).length cy] 65)).alloc (Obj.cells #[.bool false,.bool false,.slice none 0 0] 65)).drew):=below_by
    have qx0:=@inh_cell _ _ _ (show ((((w).alloc (Obj.cells #[.bool false,.bool false,.slice Ax (dg x.sz).length cx] 65)).alloc (Obj.cells #[.bool true,.bool false,.slice Ay (dg y.sz).length cy] 65)).alloc (Obj.cells #[.bool false,.bool false,.slice none 0 0] 65)).cell? ⟨w.heap.size,0,none⟩=some (.bool false) from (by go_simp))
    have qx2:=@inh_cell _ _ _ (show ((((w).alloc (Obj.cells #[.bool false,.bool false,.slice Ax (dg x.sz).length cx] 65)).alloc (Obj.cells #[.bool true,.bool false,.slice Ay (dg y.sz).length cy] 65)).alloc (Obj.cells #[.bool false,.bool false,.slice none 0 0] 65)).cell? ⟨w.heap.size,2,none⟩=some (.slice Ax (dg x.sz).length cx) from (by go_simp))
    have qy2:=@inh_cell _ _ _ (show ((((w).alloc (Obj.cells #[.bool false,.bool false,.slice Ax (dg x.sz).length cx] 65)).alloc (Obj.cells #[.bool true,.bool false,.slice Ay (dg y.sz).length cy] 65)).alloc (Obj.cells #[.bool false,.bool false,.slice none 0 0] 65)).cell? ⟨w.heap.size+1,2,none⟩=some (.slice Ay (dg y.sz).length cy) from (by go_simp))
    refine wp_region_ghost' 8 (fun k=>match k with|6=>some (gRd (dg (nv (dg x.sz)+nv (dg y.sz))))|7=>some (gZ z)|_=>none) (fun k=>match k with|7=>[6]|_=>[]) (by kernel_rfl) (by kernel_rfl) ?_;refine ex_listH ?_;apply Exists.intro;refine ex_listH ?_;apply Exists.intro;refine ex_listH ?_;apply Exists.intro;refine ex_listH ?_;apply Exists.intro;refine ex_listH ?_;apply Exists.intro;refine ex_listH ?_;apply Exists.intro;refine ex_listH ⟨undef,?_⟩;refine ex_listH ⟨undef,?_⟩;refine ⟨[],fun gg NN hN=>?_⟩;simp only [List.append_eq,List.cons_append,List.nil_append,List.take_succ_cons,List.take_zero,List.drop_succ_cons,List.drop_zero];(repeat (refine lexH_quiet rfl ?_;go_big_quiet_step (first|exact rfl|(fail));refine wpQuiet_nil ⟨?hd,?_⟩;(case hd=>exact rfl)));(refine lexH_ghost _ (by rfl) (by rfl) ?hex ?_;(case hex=>(intro px;refine ghost_call (fn:=160) (by go_simp;rfl) ?_;exact plus_r _ _ _ _ _ (HSx.out.below (inh_low HB.out px)) (HSy.out.below (inh_low HB.out px)) (Nat.le_trans LX.out (by decide)) (Nat.le_trans LY.out (by decide))));simp only [Act.put,List.setIfInBounds_toArray,List.set_cons_succ,List.set_cons_zero]);(refine lexH_ghost _ (by rfl) (by rfl) ?hex ?_;(case hex=>(intro px;have h:=px.has 6 (hN 7 6 (by simp)) _ rfl;obtain ⟨As,cs,hg⟩:=Rd.form h;have h2:Rd px.w (gg 6) _:=h;rw [hg] at h2 ⊢;exact ghost_val (by go_simp;rfl) ⟨_,by rw [HZN.out],by rw [HZA.out];exact h2⟩));simp only [Act.put,List.setIfInBounds_toArray,List.set_cons_succ,List.set_cons_zero])
    refine lexH_nil ?_
    intro w1 hb1' hh
    have hb1:Below ((((w).alloc (Obj.cells #[.bool false,.bool false,.slice Ax (dg x.sz).length cx] 65)).alloc (Obj.cells #[.bool true,.bool false,.slice Ay (dg y.sz).length cy] 65)).alloc (Obj.cells #[.bool false,.bool false,.slice none 0 0] 65)).heap.size ((((w).alloc (Obj.cells #[.bool false,.bool false,.slice Ax (dg x.sz).length cx] 65)).alloc (Obj.cells #[.bool true,.bool false,.slice Ay (dg y.sz).length cy] 65)).alloc (Obj.cells #[.bool false,.bool false,.slice none 0 0] 65)) w1:=hb1'
    obtain ⟨s2,e7,hs2⟩:=(show ZIs w1 (gg 7) z from hh 7 _ (by decide) rfl)
    obtain ⟨A2,cap2,rfl⟩:=hs2.form
    have HS2:=Lib.hid hs2
    rw [e7]
    clear hb1' hh hs2 e7 qx0 qx2 qy2
    have z_w1:=hb1.size;(try simp at z_w1);obtain ⟨yw1aa,cw1aa,fw1aa,rw1aa,tw1aa,pw1aa⟩:=bq hb1 (w.heap.size);obtain ⟨yw1ab,cw1ab,fw1ab,rw1ab,tw1ab,pw1ab⟩:=bq hb1 (w.heap.size+1);obtain ⟨yw1ac,cw1ac,fw1ac,rw1ac,tw1ac,pw1ac⟩:=bq hb1 (w.heap.size+1+1)
    go_wp2_with fail
    refine bodyPost_row 3 #[.bool (decide (z<0)),.bool false,.slice A2 (dg z.natAbs).length cap2] rfl rfl rfl Tryz.underlying65 rfl (by kernel_rfl) (rc3 (by go_simp) (by go_simp) (by go_simp)) ⟨⟨_,rfl,⟨_,rfl,HS2.out.res (by go_simp) (by go_simp) (by go_simp) _ _ _⟩⟩,below_by⟩
   ·rw [hx,hy] at HZ ⊢
    have e0:z=sgn true (x.sz+y.sz):=by rw [HZ.out];unfold sgn;simp;omega
    have HZN:Hid (decide (z<0)=true):=by
     show _=_
     rw [e0,sgn_neg]
     rw [Bool.true_and];exact decide_eq_true (by have:=hnz hx;omega)
    have HZA:Hid (dg z.natAbs=dg (nv (dg x.sz)+nv (dg y.sz))):=by show _=_;rw [e0,sgn_abs,nv_dg,nv_dg]
    clear e0 hx hy hnz
    go_enter Tryz.func167,Tryz.ntmps167
    go_wp2_with fail
    have HB:Hid (Below w.heap.size w ((((w).alloc (Obj.cells #[.bool true,.bool false,.slice Ax (dg x.sz).length cx] 65)).alloc (Obj.cells #[.bool false,.bool false,.slice Ay (dg y.sz).length cy] 65)).alloc (Obj.cells #[.bool false,.bool false,.slice none 0 0] 65)).drew):=below_by
    have qx0:=@inh_cell _ _ _ (show ((((w).alloc (Obj.cells #[.bool true,.bool false,.slice Ax (dg x.sz).length cx] 65)).alloc (Obj.cells #[.bool false,.bool false,.slice Ay (dg y.sz).length cy] 65)).alloc (Obj.cells #[.bool false,.bool false,.slice none 0 0] 65)).cell? ⟨w.heap.size,0,none⟩=some (.bool true) from (by go_simp))
    have qx2:=@inh_cell _ _ _ (show ((((w).alloc (Obj.cells #[.bool true,.bool false,.slice Ax (dg x.sz).length cx] 65)).alloc (Obj.cells #[.bool false,.bool false,.slice Ay (dg y.sz).length cy] 65)).alloc (Obj.cells #[.bool false,.bool false,.slice none 0 0] 65)).cell? ⟨w.heap.size,2,none⟩=some (.slice Ax (dg x.sz).length cx) from (by go_simp))
    have qy2:=@inh_cell _ _ _ (show ((((w).alloc (Obj.cells #[.bool true,.bool false,.slice Ax (dg x.sz).length cx] 65)).alloc (Obj.cells #[.bool false,.bool false,.slice Ay (dg y.sz).length cy] 65)).alloc (Obj.cells #[.bool false,.bool false,.slice none 0 0] 65)).cell? ⟨w.heap.size+1,2,none⟩=some (.slice Ay (dg y.sz).length cy) from (by go_simp))
    refine wp_region_ghost' 8 (fun k=>match k with|6=>some (gRd (dg (nv (dg x.sz)+nv (dg y.sz))))|7=>some (gZ z)|_=>none) (fun k=>match k with|7=>[6]|_=>[]) (by kernel_rfl) (by kernel_rfl) ?_;refine ex_listH ?_;apply Exists.intro;refine ex_listH ?_;apply Exists.intro;refine ex_listH ?_;apply Exists.intro;refine ex_listH ?_;apply Exists.intro;refine ex_listH ?_;apply Exists.intro;refine ex_listH ?_;apply Exists.intro;refine ex_listH ⟨undef,?_⟩;refine ex_listH ⟨undef,?_⟩;refine ⟨[],fun gg NN hN=>?_⟩;simp only [List.append_eq,List.cons_append,List.nil_append,List.take_succ_cons,List.take_zero,List.drop_succ_cons,List.drop_zero];(repeat (refine lexH_quiet rfl ?_;go_big_quiet_step (first|exact rfl|(fail));refine wpQuiet_nil ⟨?hd,?_⟩;(case hd=>exact rfl)));(refine lexH_ghost _ (by rfl) (by rfl) ?hex ?_;(case hex=>(intro px;refine ghost_call (fn:=160) (by go_simp;rfl) ?_;exact plus_r _ _ _ _ _ (HSx.out.below (inh_low HB.out px)) (HSy.out.below (inh_low HB.out px)) (Nat.le_trans LX.out (by decide)) (Nat.le_trans LY.out (by decide))));simp only [Act.put,List.setIfInBounds_toArray,List.set_cons_succ,List.set_cons_zero]);(refine lexH_ghost _ (by rfl) (by rfl) ?hex ?_;(case hex=>(intro px;have h:=px.has 6 (hN 7 6 (by simp)) _ rfl;obtain ⟨As,cs,hg⟩:=Rd.form h;have h2:Rd px.w (gg 6) _:=h;rw [hg] at h2 ⊢;exact ghost_val (by go_simp;rfl) ⟨_,by rw [HZN.out],by rw [HZA.out];exact h2⟩));simp only [Act.put,List.setIfInBounds_toArray,List.set_cons_succ,List.set_cons_zero])
    refine lexH_nil ?_
    intro w1 hb1' hh
    have hb1:Below ((((w).alloc (Obj.cells #[.bool true,.bool false,.slice Ax (dg x.sz).length cx] 65)).alloc (Obj.cells #[.bool false,.bool false,.slice Ay (dg y.sz).length cy] 65)).alloc (Obj.cells #[.bool false,.bool false,.slice none 0 0] 65)).heap.size ((((w).alloc (Obj.cells #[.bool true,.bool false,.slice Ax (dg x.sz).length cx] 65)).alloc (Obj.cells #[.bool false,.bool false,.slice Ay (dg y.sz).length cy] 65)).alloc (Obj.cells #[.bool false,.bool false,.slice none 0 0] 65)) w1:=hb1'
    obtain ⟨s2,e7,hs2⟩:=(show ZIs w1 (gg 7) z from hh 7 _ (by decide) rfl)
    obtain ⟨A2,cap2,rfl⟩:=hs2.form
    have HS2:=Lib.hid hs2
    rw [e7]
    clear hb1' hh hs2 e7 qx0 qx2 qy2
    have z_w1:=hb1.size;(try simp at z_w1);obtain ⟨yw1aa,cw1aa,fw1aa,rw1aa,tw1aa,pw1aa⟩:=bq hb1 (w.heap.size);obtain ⟨yw1ab,cw1ab,fw1ab,rw1ab,tw1ab,pw1ab⟩:=bq hb1 (w.heap.size+1);obtain ⟨yw1ac,cw1ac,fw1ac,rw1ac,tw1ac,pw1ac⟩:=bq hb1 (w.heap.size+1+1)
    go_wp2_with fail
    refine bodyPost_row 3 #[.bool (decide (z<0)),.bool false,.slice A2 (dg z.natAbs).length cap2] rfl rfl rfl Tryz.underlying65 rfl (by kernel_rfl) (rc3 (by go_simp) (by go_simp) (by go_simp)) ⟨⟨_,rfl,⟨_,rfl,HS2.out.res (by go_simp) (by go_simp) (by go_simp) _ _ _⟩⟩,below_by⟩
theorem cmpB_r (a b:Value) (x y:WI) (w:World) (hx:BigIs w a x) (hy:BigIs w b y) :
  Calls Tryz.prog 103 #[a,b] w fun e w'=>e = .returned (.tuple #[.int .i64 (x.cmp y).1,.bool (x.cmp y).2])∧Below w.heap.size w w':=by
 obtain ⟨Ax,cx,rfl,hsx⟩:=hx.opened
 have HSx:=Lib.hid hsx
 clear hsx hx
 obtain ⟨Ay,cy,rfl,hsy⟩:=hy.opened
 have HSy:=Lib.hid hsy
 clear hsy hy
 cases hox:x.ov with
 | true =>
  rw [WI.cmp_over x y (.inl hox)]
  go_enter Tryz.func103,Tryz.ntmps103
  go_wp2_with fail
  go_ret2
  exact ⟨rfl,below_by⟩
 | false =>
  cases hoy:y.ov with
  | true =>
   rw [WI.cmp_over x y (.inr hoy)]
   go_enter Tryz.func103,Tryz.ntmps103
   go_wp2_with fail
   go_ret2
   exact ⟨rfl,below_by⟩
  | false =>
   have HC:Hid (x.cmp y=((sgn x.ng x.sz-sgn y.ng y.sz).sign,true)):=by
    show _=_
    unfold WI.cmp
    rw [WI.some_of_ov hox,WI.some_of_ov hoy]
    simp only []
    congr 1
    generalize sgn x.ng x.sz=m
    generalize sgn y.ng y.sz=n
    rcases Int.lt_trichotomy m n with h|h|h
    ·rw [if_pos h,Int.sign_eq_neg_one_of_neg (by omega)]
    ·subst h;simp
    ·rw [if_neg (by omega),if_pos h,Int.sign_eq_one_of_pos (by omega)]
   have HOX:=Lib.hid hox
   have HOY:=Lib.hid hoy
   clear hox hoy
   go_enter Tryz.func103,Tryz.ntmps103
   go_wp2_with fail
   refine (sub2_r _ _ x y _ (by rw [← HOX.out];exact BigIs.mk (HSx.out.below below_by)) (by rw [← HOY.out];exact BigIs.mk (HSy.out.below below_by)) HOX.out HOY.out).mono ?_
   rintro e w1 ⟨⟨v,rfl,hv⟩,hb1⟩;have z_w1:=hb1.size;(try simp at z_w1);obtain ⟨yw1aa,cw1aa,fw1aa,rw1aa,tw1aa,pw1aa⟩:=bq hb1 (w.heap.size);obtain ⟨yw1ab,cw1ab,fw1ab,rw1ab,tw1ab,pw1ab⟩:=bq hb1 (w.heap.size+1)
   have HV:=Lib.hid hv
   clear hv
   go_wp2_with fail
   refine (sign_z _ _ _ HV.out).mono ?_
   rintro e w2 ⟨rfl,hb2⟩;have z_w2:=hb2.size;(try simp at z_w2);obtain ⟨yw2aa,cw2aa,fw2aa,rw2aa,tw2aa,pw2aa⟩:=bq hb2 (w.heap.size);obtain ⟨yw2ab,cw2ab,fw2ab,rw2ab,tw2ab,pw2ab⟩:=bq hb2 (w.heap.size+1)
   go_wp2_with fail
   go_ret2
   exact ⟨by rw [HC.out];rfl,below_by⟩
theorem ic2 {w:World} {z:Nat} {v0 v1:Value} {t:TypeId} (h:Hid (Blk w z #[v0,v1] t)):(∀ {fr:Nat→Option Ghost} {gg:Nat→Value} {N:List Nat} (p:Inh w.drew fr gg N),p.w.cell? ⟨z,0,none⟩=some v0)∧(∀ {fr:Nat→Option Ghost} {gg:Nat→Value} {N:List Nat} (p:Inh w.drew fr gg N),p.w.cell? ⟨z,1,none⟩=some v1):=⟨fun p=>inh_cell (h.out.cell rfl) p,fun p=>inh_cell (h.out.cell rfl) p⟩
end Go.Proofs.YtilginoibhfeiaaGreat
