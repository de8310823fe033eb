/- Laws and walks that the claim names. -/
import Derived.Test.YtilginoibhfeiaaGreatRC
import Derived.Test.YtilginoibhfeiaaGreatBM
import Derived.Test.YtilginoibhfeiaaGreatRD
set_option maxRecDepth 100000
set_option maxHeartbeats 16000000
namespace Go.Proofs.YtilginoibhfeiaaGreat
set_option linter.unusedSimpArgs false
open Go.RowKit
theorem sign_r (v:Value) (x:WI) (w:World) (hx:BigIs w v x) :
  Calls Tryz.prog 72 #[v] w fun e w'=>e = .returned (.int .i64 x.sign)∧Below w.heap.size w w':=by
 obtain ⟨Ax,cx,rfl,hsx⟩:=hx.opened
 have HSx:=Lib.hid hsx
 clear hsx hx
 have HE:=Lib.hid x.sign_eq
 have hl:(dg x.sz).length=0↔x.sz=0:=by rw [List.length_eq_zero_iff,dg_nil]
 cases ho:x.ov with
 | true =>
  have e:Hid (x.sign=0):=by show _=_;have:=HE.out;rw [ho] at this;simpa using this
  clear hl
  go_enter Tryz.func72,Tryz.ntmps72
  go_wp2_with fail
  go_ret
  exact ⟨ret_int e.out.symm,below_by⟩
 | false =>
  by_cases h0:x.sz=0
  ·have e:Hid (x.sign=0):=by show _=_;have:=HE.out;simpa [h0] using this
   have hz:(dg x.sz).length=0:=hl.2 h0
   clear h0 hl
   rw [hz] at HSx ⊢
   go_enter Tryz.func72,Tryz.ntmps72
   go_wp2_with fail
   go_ret
   exact ⟨ret_int e.out.symm,below_by⟩
  ·have hz:¬ (dg x.sz).length=0:=fun h=>h0 (hl.1 h)
   cases hn:x.ng with
   | true =>
    have e:Hid (x.sign = -1):=by show _=_;have:=HE.out;simpa [h0,ho,hn] using this
    clear h0 hl
    go_enter Tryz.func72,Tryz.ntmps72
    go_wp2_with fail
    go_ret
    exact ⟨ret_int e.out.symm,below_by⟩
   | false =>
    have e:Hid (x.sign=1):=by show _=_;have:=HE.out;simpa [h0,ho,hn] using this
    clear h0 hl
    go_enter Tryz.func72,Tryz.ntmps72
    go_wp2_with fail
    go_ret
    exact ⟨ret_int e.out.symm,below_by⟩
theorem sub_x (a b:Value) (x y z:WI) (w:World) (hz:Hid (x.sub y=z)) (ha:BigIs w a x) (hb:BigIs w b y) :
  Calls Tryz.prog 102 #[a,b] w fun e w'=>(∃ v,e = .returned v∧BigIs w' v z)∧Below w.heap.size w w':=by
 rw [← hz.out];exact sub_r a b x y w ha hb
theorem det_r (a b d:Value) (x y z:WI) (w:World) (hx:BigIs w a x) (hy:BigIs w b y) (hz:BigIs w d z) :
  Calls Tryz.prog 144 #[a,b,d] w fun e w'=>(∃ v,e = .returned v∧BigIs w' v ((x.mul z).sub (y.mul y)))∧Below w.heap.size w w':=by
 obtain ⟨Ax,cx,rfl,hsx⟩:=hx.opened
 have HSx:=Lib.hid hsx
 clear hsx hx
 obtain ⟨Ay,cy,rfl,hsy⟩:=hy.opened
 have HSy:=Lib.hid hsy
 clear hsy hy
 obtain ⟨Az,cz,rfl,hsz⟩:=hz.opened
 have HSz:=Lib.hid hsz
 clear hsz hz
 obtain ⟨x2,hx2⟩:∃ t,t=(x.mul z).sub (y.mul y):=⟨_,rfl⟩
 rw [← hx2]
 have HV:Hid ((x.mul z).sub (y.mul y)=x2):=hx2.symm
 clear hx2
 go_enter Tryz.func144,Tryz.ntmps144
 go_wp2_with fail
 have HB:Hid (Below w.heap.size w (((((w).alloc (Obj.cells #[.bool x.ng,.bool x.ov,.slice Ax (dg x.sz).length cx] 65)).alloc (Obj.cells #[.bool y.ng,.bool y.ov,.slice Ay (dg y.sz).length cy] 65)).alloc (Obj.cells #[.bool z.ng,.bool z.ov,.slice Az (dg z.sz).length cz] 65)).alloc (Obj.cells #[.bool false,.bool false,.slice none 0 0] 65)).drew):=below_by
 have qx0:=@inh_cell _ _ _ (show (((((w).alloc (Obj.cells #[.bool x.ng,.bool x.ov,.slice Ax (dg x.sz).length cx] 65)).alloc (Obj.cells #[.bool y.ng,.bool y.ov,.slice Ay (dg y.sz).length cy] 65)).alloc (Obj.cells #[.bool z.ng,.bool z.ov,.slice Az (dg z.sz).length cz] 65)).alloc (Obj.cells #[.bool false,.bool false,.slice none 0 0] 65)).cell? ⟨w.heap.size,0,none⟩=some (.bool x.ng) from (by go_simp))
 have qx1:=@inh_cell _ _ _ (show (((((w).alloc (Obj.cells #[.bool x.ng,.bool x.ov,.slice Ax (dg x.sz).length cx] 65)).alloc (Obj.cells #[.bool y.ng,.bool y.ov,.slice Ay (dg y.sz).length cy] 65)).alloc (Obj.cells #[.bool z.ng,.bool z.ov,.slice Az (dg z.sz).length cz] 65)).alloc (Obj.cells #[.bool false,.bool false,.slice none 0 0] 65)).cell? ⟨w.heap.size,1,none⟩=some (.bool x.ov) from (by go_simp))
 have qx2:=@inh_cell _ _ _ (show (((((w).alloc (Obj.cells #[.bool x.ng,.bool x.ov,.slice Ax (dg x.sz).length cx] 65)).alloc (Obj.cells #[.bool y.ng,.bool y.ov,.slice Ay (dg y.sz).length cy] 65)).alloc (Obj.cells #[.bool z.ng,.bool z.ov,.slice Az (dg z.sz).length cz] 65)).alloc (Obj.cells #[.bool false,.bool false,.slice none 0 0] 65)).cell? ⟨w.heap.size,2,none⟩=some (.slice Ax (dg x.sz).length cx) from (by go_simp))
 have qy0:=@inh_cell _ _ _ (show (((((w).alloc (Obj.cells #[.bool x.ng,.bool x.ov,.slice Ax (dg x.sz).length cx] 65)).alloc (Obj.cells #[.bool y.ng,.bool y.ov,.slice Ay (dg y.sz).length cy] 65)).alloc (Obj.cells #[.bool z.ng,.bool z.ov,.slice Az (dg z.sz).length cz] 65)).alloc (Obj.cells #[.bool false,.bool false,.slice none 0 0] 65)).cell? ⟨w.heap.size+1,0,none⟩=some (.bool y.ng) from (by go_simp))
 have qy1:=@inh_cell _ _ _ (show (((((w).alloc (Obj.cells #[.bool x.ng,.bool x.ov,.slice Ax (dg x.sz).length cx] 65)).alloc (Obj.cells #[.bool y.ng,.bool y.ov,.slice Ay (dg y.sz).length cy] 65)).alloc (Obj.cells #[.bool z.ng,.bool z.ov,.slice Az (dg z.sz).length cz] 65)).alloc (Obj.cells #[.bool false,.bool false,.slice none 0 0] 65)).cell? ⟨w.heap.size+1,1,none⟩=some (.bool y.ov) from (by go_simp))
 have qy2:=@inh_cell _ _ _ (show (((((w).alloc (Obj.cells #[.bool x.ng,.bool x.ov,.slice Ax (dg x.sz).length cx] 65)).alloc (Obj.cells #[.bool y.ng,.bool y.ov,.slice Ay (dg y.sz).length cy] 65)).alloc (Obj.cells #[.bool z.ng,.bool z.ov,.slice Az (dg z.sz).length cz] 65)).alloc (Obj.cells #[.bool false,.bool false,.slice none 0 0] 65)).cell? ⟨w.heap.size+1,2,none⟩=some (.slice Ay (dg y.sz).length cy) from (by go_simp))
 have qz0:=@inh_cell _ _ _ (show (((((w).alloc (Obj.cells #[.bool x.ng,.bool x.ov,.slice Ax (dg x.sz).length cx] 65)).alloc (Obj.cells #[.bool y.ng,.bool y.ov,.slice Ay (dg y.sz).length cy] 65)).alloc (Obj.cells #[.bool z.ng,.bool z.ov,.slice Az (dg z.sz).length cz] 65)).alloc (Obj.cells #[.bool false,.bool false,.slice none 0 0] 65)).cell? ⟨w.heap.size+1+1,0,none⟩=some (.bool z.ng) from (by go_simp))
 have qz1:=@inh_cell _ _ _ (show (((((w).alloc (Obj.cells #[.bool x.ng,.bool x.ov,.slice Ax (dg x.sz).length cx] 65)).alloc (Obj.cells #[.bool y.ng,.bool y.ov,.slice Ay (dg y.sz).length cy] 65)).alloc (Obj.cells #[.bool z.ng,.bool z.ov,.slice Az (dg z.sz).length cz] 65)).alloc (Obj.cells #[.bool false,.bool false,.slice none 0 0] 65)).cell? ⟨w.heap.size+1+1,1,none⟩=some (.bool z.ov) from (by go_simp))
 have qz2:=@inh_cell _ _ _ (show (((((w).alloc (Obj.cells #[.bool x.ng,.bool x.ov,.slice Ax (dg x.sz).length cx] 65)).alloc (Obj.cells #[.bool y.ng,.bool y.ov,.slice Ay (dg y.sz).length cy] 65)).alloc (Obj.cells #[.bool z.ng,.bool z.ov,.slice Az (dg z.sz).length cz] 65)).alloc (Obj.cells #[.bool false,.bool false,.slice none 0 0] 65)).cell? ⟨w.heap.size+1+1,2,none⟩=some (.slice Az (dg z.sz).length cz) from (by go_simp))
 refine wp_region_ghost' 7 (fun k=>match k with|2=>some (gBig (x.mul z))|5=>some (gBig (y.mul y))|6=>some (gBig x2)|_=>none) (fun k=>match k with|6=>[2,5]|_=>[]) (by kernel_rfl) (by kernel_rfl) ?_;refine ex_listH ?_;apply Exists.intro;refine ex_listH ?_;apply Exists.intro;refine ex_listH ⟨undef,?_⟩;refine ex_listH ?_;apply Exists.intro;refine ex_listH ?_;apply Exists.intro;refine ex_listH ⟨undef,?_⟩;refine ex_listH ⟨undef,?_⟩;refine ⟨[],fun gg NN hN=>?_⟩;simp only [List.append_eq,List.cons_append,List.nil_append,List.take_succ_cons,List.take_zero,List.drop_succ_cons,List.drop_zero];(repeat (refine lexH_quiet rfl ?_;go_big_quiet_step (first|exact rfl|(fail));refine wpQuiet_nil ⟨?hd,?_⟩;(case hd=>exact rfl)));(refine lexH_ghost _ (by rfl) (by rfl) ?hex ?_;(case hex=>(intro px;refine ghost_call (fn:=93) (by go_simp;rfl) ?_;exact mul_r _ _ _ _ _ (BigIs.mk (HSx.out.below (inh_low HB.out px))) (BigIs.mk (HSz.out.below (inh_low HB.out px)))));simp only [Act.put,List.setIfInBounds_toArray,List.set_cons_succ,List.set_cons_zero]);(repeat (refine lexH_quiet rfl ?_;go_big_quiet_step (first|exact rfl|(fail));refine wpQuiet_nil ⟨?hd,?_⟩;(case hd=>exact rfl)));(refine lexH_ghost _ (by rfl) (by rfl) ?hex ?_;(case hex=>(intro px;refine ghost_call (fn:=93) (by go_simp;rfl) ?_;exact mul_r _ _ _ _ _ (BigIs.mk (HSy.out.below (inh_low HB.out px))) (BigIs.mk (HSy.out.below (inh_low HB.out px)))));simp only [Act.put,List.setIfInBounds_toArray,List.set_cons_succ,List.set_cons_zero]);(refine lexH_ghost _ (by rfl) (by rfl) ?hex ?_;(case hex=>(intro px;refine ghost_call (fn:=102) (by go_simp;rfl) ?_;exact sub_x _ _ _ _ _ _ HV (px.has 2 (hN 6 2 (by simp)) _ rfl) (px.has 5 (hN 6 5 (by simp)) _ rfl)));simp only [Act.put,List.setIfInBounds_toArray,List.set_cons_succ,List.set_cons_zero])
 refine lexH_nil ?_
 intro w1 hb1' hh
 have hb1:Below (((((w).alloc (Obj.cells #[.bool x.ng,.bool x.ov,.slice Ax (dg x.sz).length cx] 65)).alloc (Obj.cells #[.bool y.ng,.bool y.ov,.slice Ay (dg y.sz).length cy] 65)).alloc (Obj.cells #[.bool z.ng,.bool z.ov,.slice Az (dg z.sz).length cz] 65)).alloc (Obj.cells #[.bool false,.bool false,.slice none 0 0] 65)).heap.size (((((w).alloc (Obj.cells #[.bool x.ng,.bool x.ov,.slice Ax (dg x.sz).length cx] 65)).alloc (Obj.cells #[.bool y.ng,.bool y.ov,.slice Ay (dg y.sz).length cy] 65)).alloc (Obj.cells #[.bool z.ng,.bool z.ov,.slice Az (dg z.sz).length cz] 65)).alloc (Obj.cells #[.bool false,.bool false,.slice none 0 0] 65)) w1:=hb1'
 obtain ⟨A2,cap2,e7,hs2⟩:=(show BigIs w1 (gg 6) x2 from hh 6 _ (by decide) rfl).opened
 have HS2:=Lib.hid hs2
 rw [e7]
 clear hb1' hh hs2 e7 qx0 qx1 qx2 qy0 qy1 qy2 qz0 qz1 qz2
 have z_w1:=hb1.size;(try simp at z_w1);obtain ⟨yw1aa,cw1aa,fw1aa,rw1aa,tw1aa,pw1aa⟩:=bq hb1 (w.heap.size);obtain ⟨yw1ab,cw1ab,fw1ab,rw1ab,tw1ab,pw1ab⟩:=bq hb1 (w.heap.size+1);obtain ⟨yw1ac,cw1ac,fw1ac,rw1ac,tw1ac,pw1ac⟩:=bq hb1 (w.heap.size+1+1);obtain ⟨yw1ad,cw1ad,fw1ad,rw1ad,tw1ad,pw1ad⟩:=bq hb1 (w.heap.size+1+1+1)
 go_wp2_with fail
 refine bodyPost_row 3 #[.bool x2.ng,.bool x2.ov,.slice A2 (dg x2.sz).length cap2] rfl rfl rfl Tryz.underlying65 rfl (by kernel_rfl) (rc3 (by go_simp) (by go_simp) (by go_simp)) ⟨⟨_,rfl,BigIs.mk (HS2.out.res (by go_simp) (by go_simp) (by go_simp) _ _ _)⟩,below_by⟩
set_option linter.unusedSimpArgs false
open Go.RowKit
theorem det_x (a b d:Value) (x y z t:WI) (w:World) (ht:Hid ((x.mul z).sub (y.mul y)=t)) (hx:BigIs w a x) (hy:BigIs w b y) (hz:BigIs w d z) :
  Calls Tryz.prog 144 #[a,b,d] w fun e w'=>(∃ v,e = .returned v∧BigIs w' v t)∧Below w.heap.size w w':=by
 rw [← ht.out];exact det_r a b d x y z w hx hy hz
theorem matdet_r (a b d:Int) (ha:I64 a) (hb:I64 b) (hd:I64 d) (w:World) :
  Calls Tryz.prog 73 #[symV a b d] w fun e w'=>(∃ v,e = .returned v∧BigIs w' v (WI.of (a*d-b*b)))∧Below w.heap.size w w':=by
 have E:=of_both a b d ha.sm hb.sm hd.sm
 have K:Hid (I64 a∧I64 b∧I64 d):=⟨ha,hb,hd⟩
 obtain ⟨x2,hx2⟩:∃ t,t=WI.of (a*d-b*b):=⟨_,rfl⟩
 rw [← hx2] at E ⊢
 have HV:=Lib.hid E
 clear ha hb hd hx2 E
 go_enter Tryz.func73,Tryz.ntmps73
 go_wp2_with fail
 have HB:Hid (Below w.heap.size w (((w).alloc (Obj.cells #[.int .i64 a,.int .i64 b,.int .i64 d] 25)).alloc (Obj.cells #[.bool false,.bool false,.slice none 0 0] 65)).drew):=below_by
 have qs0:=@inh_cell _ _ _ (show (((w).alloc (Obj.cells #[.int .i64 a,.int .i64 b,.int .i64 d] 25)).alloc (Obj.cells #[.bool false,.bool false,.slice none 0 0] 65)).cell? ⟨w.heap.size,0,none⟩=some (.int .i64 a) from (by go_simp))
 have qs1:=@inh_cell _ _ _ (show (((w).alloc (Obj.cells #[.int .i64 a,.int .i64 b,.int .i64 d] 25)).alloc (Obj.cells #[.bool false,.bool false,.slice none 0 0] 65)).cell? ⟨w.heap.size,1,none⟩=some (.int .i64 b) from (by go_simp))
 have qs2:=@inh_cell _ _ _ (show (((w).alloc (Obj.cells #[.int .i64 a,.int .i64 b,.int .i64 d] 25)).alloc (Obj.cells #[.bool false,.bool false,.slice none 0 0] 65)).cell? ⟨w.heap.size,2,none⟩=some (.int .i64 d) from (by go_simp))
 refine wp_region_ghost' 10 (fun k=>match k with|2=>some (gBig (WI.of a))|5=>some (gBig (WI.of b))|8=>some (gBig (WI.of d))|9=>some (gBig x2)|_=>none) (fun k=>match k with|9=>[2,5,8]|_=>[]) (by kernel_rfl) (by kernel_rfl) ?_;refine ex_listH ?_;apply Exists.intro;refine ex_listH ?_;apply Exists.intro;refine ex_listH ⟨undef,?_⟩;refine ex_listH ?_;apply Exists.intro;refine ex_listH ?_;apply Exists.intro;refine ex_listH ⟨undef,?_⟩;refine ex_listH ?_;apply Exists.intro;refine ex_listH ?_;apply Exists.intro;refine ex_listH ⟨undef,?_⟩;refine ex_listH ⟨undef,?_⟩;refine ⟨[],fun gg NN hN=>?_⟩;simp only [List.append_eq,List.cons_append,List.nil_append,List.take_succ_cons,List.take_zero,List.drop_succ_cons,List.drop_zero];(repeat (refine lexH_quiet rfl ?_;go_big_quiet_step (first|exact rfl|(fail));refine wpQuiet_nil ⟨?hd,?_⟩;(case hd=>exact rfl)));(refine lexH_ghost _ (by rfl) (by rfl) ?hex ?_;(case hex=>(intro px;refine ghost_call (fn:=105) (by go_simp;rfl) ?_;exact of_r _ K.out.1.1 K.out.1.2 _));simp only [Act.put,List.setIfInBounds_toArray,List.set_cons_succ,List.set_cons_zero]);(repeat (refine lexH_quiet rfl ?_;go_big_quiet_step (first|exact rfl|(fail));refine wpQuiet_nil ⟨?hd,?_⟩;(case hd=>exact rfl)));(refine lexH_ghost _ (by rfl) (by rfl) ?hex ?_;(case hex=>(intro px;refine ghost_call (fn:=105) (by go_simp;rfl) ?_;exact of_r _ K.out.2.1.1 K.out.2.1.2 _));simp only [Act.put,List.setIfInBounds_toArray,List.set_cons_succ,List.set_cons_zero]);(repeat (refine lexH_quiet rfl ?_;go_big_quiet_step (first|exact rfl|(fail));refine wpQuiet_nil ⟨?hd,?_⟩;(case hd=>exact rfl)));(refine lexH_ghost _ (by rfl) (by rfl) ?hex ?_;(case hex=>(intro px;refine ghost_call (fn:=105) (by go_simp;rfl) ?_;exact of_r _ K.out.2.2.1 K.out.2.2.2 _));simp only [Act.put,List.setIfInBounds_toArray,List.set_cons_succ,List.set_cons_zero]);(refine lexH_ghost _ (by rfl) (by rfl) ?hex ?_;(case hex=>(intro px;refine ghost_call (fn:=144) (by go_simp;rfl) ?_;exact det_x _ _ _ _ _ _ _ _ HV (px.has 2 (hN 9 2 (by simp)) _ rfl) (px.has 5 (hN 9 5 (by simp)) _ rfl) (px.has 8 (hN 9 8 (by simp)) _ rfl)));simp only [Act.put,List.setIfInBounds_toArray,List.set_cons_succ,List.set_cons_zero])
 refine lexH_nil ?_
 intro w1 hb1' hh
 have hb1:Below (((w).alloc (Obj.cells #[.int .i64 a,.int .i64 b,.int .i64 d] 25)).alloc (Obj.cells #[.bool false,.bool false,.slice none 0 0] 65)).heap.size (((w).alloc (Obj.cells #[.int .i64 a,.int .i64 b,.int .i64 d] 25)).alloc (Obj.cells #[.bool false,.bool false,.slice none 0 0] 65)) w1:=hb1'
 obtain ⟨A2,cap2,e7,hs2⟩:=(show BigIs w1 (gg 9) x2 from hh 9 _ (by decide) rfl).opened
 have HS2:=Lib.hid hs2
 rw [e7]
 clear hb1' hh hs2 e7 qs0 qs1 qs2
 have z_w1:=hb1.size;(try simp at z_w1);obtain ⟨yw1aa,cw1aa,fw1aa,rw1aa,tw1aa,pw1aa⟩:=bq hb1 (w.heap.size);obtain ⟨yw1ab,cw1ab,fw1ab,rw1ab,tw1ab,pw1ab⟩:=bq hb1 (w.heap.size+1)
 go_wp2_with fail
 refine bodyPost_row 3 #[.bool x2.ng,.bool x2.ov,.slice A2 (dg x2.sz).length cap2] rfl rfl rfl Tryz.underlying65 rfl (by kernel_rfl) (rc3 (by go_simp) (by go_simp) (by go_simp)) ⟨⟨_,rfl,BigIs.mk (HS2.out.res (by go_simp) (by go_simp) (by go_simp) _ _ _)⟩,below_by⟩
def gCell (B:Nat) (cs:Array Value) (t:TypeId):Ghost where
 holds:=fun w v=>∃ g,v = .pointer (some ⟨g,0,none⟩)∧B≤g∧Blk w g cs t
 stable:=fun ⟨g,h1,h2,h3⟩ hb=>⟨g,h1,h2,h3.keep hb⟩
 own:=fun v=>match v with | .pointer (some ⟨g,_,_⟩)=>some g|_=>none
 lt:=fun ⟨g,h1,_,h2⟩ e=>by subst h1;cases e;exact h2.lt
theorem ghost_alloc {P:Program} {w:World} {r:Result Next} {B:Nat} {cs:Array Value} {t:TypeId} (hB:B≤w.heap.size) (hr:r = .ok (.value (.pointer (some ⟨w.heap.size,0,none⟩))) (w.alloc (.cells cs t))):ghostUpon P (gCell B cs t) w r:=by
 subst hr
 exact ⟨⟨_,rfl,hB,Blk.new _ _ _⟩,(Below.refl _ _).alloc (Nat.le_refl _) _,fun b e=>by cases e;exact Nat.le_refl _⟩
theorem BigAt.zero {w:World} {g:Nat} (h:Blk w g #[.bool false,.bool false,.slice none 0 0] 65):BigAt w g (WI.of 0):=by
 have h1:(WI.of 0).sz=0:=by unfold WI.sz;rw [WI.of_v (by simpa using lim_pos)];rfl
 have h2:(WI.of 0).ng=false:=by unfold WI.ng;rw [WI.of_v (by simpa using lim_pos)];rfl
 have h3:(WI.of 0).ov=false:=by unfold WI.ov;rw [WI.of_v (by simpa using lim_pos)];rfl
 refine ⟨none,0,?_,?_⟩
 ·unfold bigC;rw [h1,h2,h3,dg_zero];exact h
 ·rw [h1,dg_zero];exact Rd.nil _
theorem BigAt.put_other {w:World} {g g':Nat} {x y:WI} (h:BigAt w g x) (h':BigAt w g' y) (hne:g≠g') (v0 v1 v2:Value):BigAt (((w.setCell ⟨g',0,none⟩ v0).setCell ⟨g',1,none⟩ v1).setCell ⟨g',2,none⟩ v2) g x:=by
 obtain ⟨A,c,h1,h2⟩:=h
 obtain ⟨A',c',h3,-⟩:=h'
 exact ⟨A,c,((h1.setCell_other (by simpa using hne) _).setCell_other (by simpa using hne) _).setCell_other (by simpa using hne) _,h2.set3 (h3.cell (i:=0) rfl) (h3.cell (i:=1) rfl) (h3.cell (i:=2) rfl) _ _ _⟩
theorem quad_parts (a b d x y:Int) (ha:I64 a) (hb:I64 b) (hd:I64 d) (hx:I64 x) (hy:I64 y) :
  (WI.of x).mul (WI.of x)=WI.of (x*x)∧(WI.of a).mul (WI.of (x*x))=WI.of (a*(x*x))∧(WI.of (x*y)).add (WI.of (x*y))=WI.of (x*y+x*y)∧(WI.of b).mul (WI.of (x*y+x*y))=WI.of (b*(x*y+x*y)) ∧
  (WI.of (a*(x*x))).add (WI.of (b*(x*y+x*y)))=WI.of (a*(x*x)+b*(x*y+x*y))∧(WI.of y).mul (WI.of y)=WI.of (y*y)∧(WI.of d).mul (WI.of (y*y))=WI.of (d*(y*y)) ∧
  (WI.of (a*(x*x)+b*(x*y+x*y))).add (WI.of (d*(y*y)))=WI.of (a*(x*x)+d*(y*y)+(b*(x*y)+b*(x*y))):=by
 have A:=Sm.of64 ha.1 ha.2
 have B:=Sm.of64 hb.1 hb.2
 have D:=Sm.of64 hd.1 hd.2
 have X:=Sm.of64 hx.1 hx.2
 have Y:=Sm.of64 hy.1 hy.2
 have XX:=X.mul X
 have YY:=Y.mul Y
 have XY:=X.mul Y
 have AXX:=A.mul XX
 have S:=XY.add XY
 have BS:=B.mul S
 have DYY:=D.mul YY
 have AB:=(AXX.mono (k:=190) (by decide)).add (BS.mono (k:=190) (by decide))
 refine ⟨WI.of_mul (X.lim (by decide)) (X.lim (by decide)),WI.of_mul (A.lim (by decide)) (XX.lim (by decide)),WI.of_add (XY.lim (by decide)) (XY.lim (by decide)),WI.of_mul (B.lim (by decide)) (S.lim (by decide)),WI.of_add (AXX.lim (by decide)) (BS.lim (by decide)),WI.of_mul (Y.lim (by decide)) (Y.lim (by decide)),WI.of_mul (D.lim (by decide)) (YY.lim (by decide)),?_⟩
 rw [WI.of_add (AB.lim (by decide)) (DYY.lim (by decide))]
 congr 1
 grind
theorem quad_r (a b d x y:Int) (ha:I64 a) (hb:I64 b) (hd:I64 d) (hx:I64 x) (hy:I64 y) (w:World) :
  Calls Tryz.prog 90 #[symV a b d,ptV x y] w fun e w'=>(∃ v,e = .returned v∧BigIs w' v (WI.of (a*(x*x)+d*(y*y)+(b*(x*y)+b*(x*y)))))∧Below w.heap.size w w':=by
 have K:Hid (I64 a∧I64 b∧I64 d∧I64 x∧I64 y):=⟨ha,hb,hd,hx,hy⟩
 clear ha hb hd hx hy
 go_enter Tryz.func90,Tryz.ntmps90
 go_wp2_with fail
 have HB0:Hid (Below w.heap.size w ((((w).alloc (Obj.cells #[.int .i64 a,.int .i64 b,.int .i64 d] 25)).alloc (Obj.cells #[.int .i64 x,.int .i64 y] 23)).alloc (Obj.cells #[.bool false,.bool false,.slice none 0 0] 65))):=below_by
 have X0:Hid (Blk ((((w).alloc (Obj.cells #[.int .i64 a,.int .i64 b,.int .i64 d] 25)).alloc (Obj.cells #[.int .i64 x,.int .i64 y] 23)).alloc (Obj.cells #[.bool false,.bool false,.slice none 0 0] 65)) (w.heap.size) #[.int .i64 a,.int .i64 b,.int .i64 d] 25):=((Blk.new' _ _ _ (by simp)).alloc _).alloc _
 have X1:Hid (Blk ((((w).alloc (Obj.cells #[.int .i64 a,.int .i64 b,.int .i64 d] 25)).alloc (Obj.cells #[.int .i64 x,.int .i64 y] 23)).alloc (Obj.cells #[.bool false,.bool false,.slice none 0 0] 65)) (w.heap.size+1) #[.int .i64 x,.int .i64 y] 23):=(Blk.new' _ _ _ (by simp)).alloc _
 have X2:Hid (Blk ((((w).alloc (Obj.cells #[.int .i64 a,.int .i64 b,.int .i64 d] 25)).alloc (Obj.cells #[.int .i64 x,.int .i64 y] 23)).alloc (Obj.cells #[.bool false,.bool false,.slice none 0 0] 65)) (w.heap.size+1+1) #[.bool false,.bool false,.slice none 0 0] 65):=Blk.new' _ _ _ (by simp)
 have qp00:=@inh_cell _ _ _ (show ((((w).alloc (Obj.cells #[.int .i64 a,.int .i64 b,.int .i64 d] 25)).alloc (Obj.cells #[.int .i64 x,.int .i64 y] 23)).alloc (Obj.cells #[.bool false,.bool false,.slice none 0 0] 65)).cell? ⟨w.heap.size+1,0,none⟩=some (.int .i64 x) from (by go_simp))
 have qp10:=@inh_cell _ _ _ (show ((((w).alloc (Obj.cells #[.int .i64 a,.int .i64 b,.int .i64 d] 25)).alloc (Obj.cells #[.int .i64 x,.int .i64 y] 23)).alloc (Obj.cells #[.bool false,.bool false,.slice none 0 0] 65)).cell? ⟨w.heap.size+1,1,none⟩=some (.int .i64 y) from (by go_simp))
 have HB:Hid (Below w.heap.size w ((((w).alloc (Obj.cells #[.int .i64 a,.int .i64 b,.int .i64 d] 25)).alloc (Obj.cells #[.int .i64 x,.int .i64 y] 23)).alloc (Obj.cells #[.bool false,.bool false,.slice none 0 0] 65)).drew):=below_by
 refine wp_region_ghostD' 8 (fun k=>match k with|2=>some (gBig (WI.of x))|5=>some (gBig (WI.of y))|6=>some (gCell (w.heap.size+3) #[.bool false,.bool false,.slice none 0 0] 65)|7=>some (gCell (w.heap.size+3) #[.bool false,.bool false,.slice none 0 0] 65)|_=>none) (fun _=>[]) (by kernel_rfl) (by kernel_rfl) ?_;refine ex_listH ?_;apply Exists.intro;refine ex_listH ?_;apply Exists.intro;refine ex_listH ⟨undef,?_⟩;refine ex_listH ?_;apply Exists.intro;refine ex_listH ?_;apply Exists.intro;refine ex_listH ⟨undef,?_⟩;refine ex_listH ⟨undef,?_⟩;refine ex_listH ⟨undef,?_⟩;refine ⟨[],fun gg NN hN=>?_⟩;simp only [List.append_eq,List.cons_append,List.nil_append,List.take_succ_cons,List.take_zero,List.drop_succ_cons,List.drop_zero];(repeat (refine lexH_quiet rfl ?_;go_big_quiet_step (first|exact rfl|(fail));refine wpQuiet_nil ⟨?hd,?_⟩;(case hd=>exact rfl)));(refine lexH_ghost _ (by rfl) (by rfl) ?hex ?_;(case hex=>(intro px;refine ghost_call (fn:=105) (by go_simp;rfl) ?_;exact of_r _ K.out.2.2.2.1.1 K.out.2.2.2.1.2 _));simp only [Act.put,List.setIfInBounds_toArray,List.set_cons_succ,List.set_cons_zero]);(repeat (refine lexH_quiet rfl ?_;go_big_quiet_step (first|exact rfl|(fail));refine wpQuiet_nil ⟨?hd,?_⟩;(case hd=>exact rfl)));(refine lexH_ghost _ (by rfl) (by rfl) ?hex ?_;(case hex=>(intro px;refine ghost_call (fn:=105) (by go_simp;rfl) ?_;exact of_r _ K.out.2.2.2.2.1 K.out.2.2.2.2.2 _));simp only [Act.put,List.setIfInBounds_toArray,List.set_cons_succ,List.set_cons_zero]);(refine lexH_ghost _ (by rfl) (by rfl) ?hex ?_;(case hex=>(intro px;exact ghost_alloc (by have:=px.low.size;simp at this;omega) (by first|(go_simp;done)|(go_simp;rfl))));simp only [Act.put,List.setIfInBounds_toArray,List.set_cons_succ,List.set_cons_zero]);(refine lexH_ghost _ (by rfl) (by rfl) ?hex ?_;(case hex=>(intro px;exact ghost_alloc (by have:=px.low.size;simp at this;omega) (by first|(go_simp;done)|(go_simp;rfl))));simp only [Act.put,List.setIfInBounds_toArray,List.set_cons_succ,List.set_cons_zero])
 refine lexH_nil ?_
 intro u1 hb1' hh hd
 have hb1:Below ((((w).alloc (Obj.cells #[.int .i64 a,.int .i64 b,.int .i64 d] 25)).alloc (Obj.cells #[.int .i64 x,.int .i64 y] 23)).alloc (Obj.cells #[.bool false,.bool false,.slice none 0 0] 65)).heap.size ((((w).alloc (Obj.cells #[.int .i64 a,.int .i64 b,.int .i64 d] 25)).alloc (Obj.cells #[.int .i64 x,.int .i64 y] 23)).alloc (Obj.cells #[.bool false,.bool false,.slice none 0 0] 65)) u1:=hb1'
 obtain ⟨g5,e6,l5,b6⟩:=hh 6 _ (by decide) rfl
 obtain ⟨g6,e7,l6,b7⟩:=hh 7 _ (by decide) rfl
 have hne:g5≠g6:=hd 6 7 _ _ g5 g6 (by decide) (by decide) rfl rfl (by decide) (by rw [e6];rfl) (by rw [e7];rfl)
 obtain ⟨A5,c5,e2,r5⟩:=(show BigIs u1 (gg 2) (WI.of x) from hh 2 _ (by decide) rfl).opened
 obtain ⟨A6,c6,e5,r6⟩:=(show BigIs u1 (gg 5) (WI.of y) from hh 5 _ (by decide) rfl).opened
 rw [e2,e5,e6,e7]
 have B5:Hid (BigAt u1 g5 (WI.of 0)):=BigAt.zero b6
 have B6:Hid (BigAt u1 g6 (WI.of 0)):=BigAt.zero b7
 have R5:=Lib.hid r5
 have R6:=Lib.hid r6
 have HB1:Hid (Below w.heap.size w u1):=HB0.out.trans (hb1.mono HB0.out.size)
 have Y0:=Lib.hid (X0.out.keep hb1)
 have Y1:=Lib.hid (X1.out.keep hb1)
 have Y2:=Lib.hid (X2.out.keep hb1)
 have n50:¬ (w.heap.size=g5):=by omega
 have n60:¬ (w.heap.size=g6):=by omega
 have n51:¬ (w.heap.size+1=g5):=by omega
 have n61:¬ (w.heap.size+1=g6):=by omega
 have n52:¬ (w.heap.size+1+1=g5):=by omega
 have n62:¬ (w.heap.size+1+1=g6):=by omega
 have S5:=Lib.hid (B5.out.put R5.out)
 have T6:=Lib.hid (B6.out.put_other B5.out hne.symm (.bool (WI.of x).ng) (.bool (WI.of x).ov) (.slice A5 (dg (WI.of x).sz).length c5))
 have Q6:=Lib.hid (R6.out.set3 (b6.cell (i:=0) rfl) (b6.cell (i:=1) rfl) (b6.cell (i:=2) rfl) (.bool (WI.of x).ng) (.bool (WI.of x).ov) (.slice A5 (dg (WI.of x).sz).length c5))
 have Q5:=Lib.hid (R5.out.set3 (b6.cell (i:=0) rfl) (b6.cell (i:=1) rfl) (b6.cell (i:=2) rfl) (.bool (WI.of x).ng) (.bool (WI.of x).ov) (.slice A5 (dg (WI.of x).sz).length c5))
 have G7:=Lib.hid (((b7.setCell_other (a:=⟨g5,0,none⟩) hne.symm (.bool (WI.of x).ng)).setCell_other (a:=⟨g5,1,none⟩) hne.symm (.bool (WI.of x).ov)).setCell_other (a:=⟨g5,2,none⟩) hne.symm (.slice A5 (dg (WI.of x).sz).length c5))
 have V5:=Lib.hid b6
 have u50:=b6.cell (i:=0) rfl
 have u51:=b6.cell (i:=1) rfl
 have u52:=b6.cell (i:=2) rfl
 have uf5:=b6.frozen
 have u60:=b7.cell (i:=0) rfl
 have u61:=b7.cell (i:=1) rfl
 have u62:=b7.cell (i:=2) rfl
 have uf6:=b7.frozen
 have hne2:=hne.symm
 clear hb1' hh hd e2 e5 e6 e7 hb1 b6 b7 r5 r6 qp00 qp10 B5 B6 R5 R6 HB0 HB X0 X1 X2
 go_wp2_with fail
 obtain ⟨u2,hu2⟩:∃ u2,u2=(((((u1.setCell ⟨g5,0,none⟩ (.bool (WI.of x).ng)).setCell ⟨g5,1,none⟩ (.bool (WI.of x).ov)).setCell ⟨g5,2,none⟩ (.slice A5 (dg (WI.of x).sz).length c5)).setCell ⟨g6,0,none⟩ (.bool (WI.of y).ng)).setCell ⟨g6,1,none⟩ (.bool (WI.of y).ov)).setCell ⟨g6,2,none⟩ (.slice A6 (dg (WI.of y).sz).length c6):=⟨_,rfl⟩
 rw [← hu2]
 have S6:Hid (BigAt u2 g6 (WI.of y)):=by rw [hu2];exact T6.out.put Q6.out
 have S5':Hid (BigAt u2 g5 (WI.of x)):=by rw [hu2];exact S5.out.put_other T6.out hne _ _ _
 have E5:Hid (Rd u2 (.slice A5 (dg (WI.of x).sz).length c5) (dg (WI.of x).sz)):=by rw [hu2];exact Q5.out.set3 (G7.out.cell (i:=0) rfl) (G7.out.cell (i:=1) rfl) (G7.out.cell (i:=2) rfl) _ _ _
 have E6:Hid (Rd u2 (.slice A6 (dg (WI.of y).sz).length c6) (dg (WI.of y).sz)):=by rw [hu2];exact Q6.out.set3 (G7.out.cell (i:=0) rfl) (G7.out.cell (i:=1) rfl) (G7.out.cell (i:=2) rfl) _ _ _
 have HB2:Hid (Below w.heap.size w u2):=by rw [hu2];exact (((((HB1.out.setCell (by simp;omega) _).setCell (by simp;omega) _).setCell (by simp;omega) _).setCell (by simp;omega) _).setCell (by simp;omega) _).setCell (by simp;omega) _
 have D5:Hid (Blk u2 g5 (bigC (WI.of x) A5 c5) 65):=by
  rw [hu2]
  exact ((((((V5.out.setCell_same 0 _).setCell_same 1 _).setCell_same 2 _).setCell_other (a:=⟨g6,0,none⟩) hne _).setCell_other (a:=⟨g6,1,none⟩) hne _).setCell_other (a:=⟨g6,2,none⟩) hne _)
 have D6:Hid (Blk u2 g6 (bigC (WI.of y) A6 c6) 65):=by
  rw [hu2]
  exact ((G7.out.setCell_same 0 _).setCell_same 1 _).setCell_same 2 _
 have Z0:Hid (Blk u2 (w.heap.size) #[.int .i64 a,.int .i64 b,.int .i64 d] 25):=by rw [hu2];exact ((((((Y0.out.setCell_other (a:=⟨g5,0,none⟩) n50 _).setCell_other (a:=⟨g5,1,none⟩) n50 _).setCell_other (a:=⟨g5,2,none⟩) n50 _).setCell_other (a:=⟨g6,0,none⟩) n60 _).setCell_other (a:=⟨g6,1,none⟩) n60 _).setCell_other (a:=⟨g6,2,none⟩) n60 _)
 have Z1:Hid (Blk u2 (w.heap.size+1) #[.int .i64 x,.int .i64 y] 23):=by rw [hu2];exact ((((((Y1.out.setCell_other (a:=⟨g5,0,none⟩) n51 _).setCell_other (a:=⟨g5,1,none⟩) n51 _).setCell_other (a:=⟨g5,2,none⟩) n51 _).setCell_other (a:=⟨g6,0,none⟩) n61 _).setCell_other (a:=⟨g6,1,none⟩) n61 _).setCell_other (a:=⟨g6,2,none⟩) n61 _)
 have Z2:Hid (Blk u2 (w.heap.size+1+1) #[.bool false,.bool false,.slice none 0 0] 65):=by rw [hu2];exact ((((((Y2.out.setCell_other (a:=⟨g5,0,none⟩) n52 _).setCell_other (a:=⟨g5,1,none⟩) n52 _).setCell_other (a:=⟨g5,2,none⟩) n52 _).setCell_other (a:=⟨g6,0,none⟩) n62 _).setCell_other (a:=⟨g6,1,none⟩) n62 _).setCell_other (a:=⟨g6,2,none⟩) n62 _)
 clear hu2 S5 T6 Q5 Q6 G7 V5 HB1 u50 u51 u52 uf5 u60 u61 u62 uf6 Y0 Y1 Y2
 have HXY:Hid ((WI.of x).mul (WI.of y)=WI.of (x*y)):=WI.of_mul (K.out.2.2.2.1.sm.lim (by decide)) (K.out.2.2.2.2.sm.lim (by decide))
 refine (mul_x _ _ _ _ _ _ HXY (BigIs.mk E5.out) (BigIs.mk E6.out)).mono ?_
 rintro e w3 ⟨⟨v3,rfl,hv3⟩,hb3⟩
 obtain ⟨A7,c7,rfl,r7⟩:=hv3.opened
 have R7:=Lib.hid r7
 have Z0':=Lib.hid (Z0.out.keep hb3)
 have Z2':=Lib.hid (Z2.out.keep hb3)
 have D5':=Lib.hid (D5.out.keep hb3)
 have D6':=Lib.hid (D6.out.keep hb3)
 have E5':=Lib.hid (E5.out.below hb3)
 have E6':=Lib.hid (E6.out.below hb3)
 have HB3:=Lib.hid (HB2.out.trans (hb3.mono HB2.out.size))
 clear hv3 r7 hb3 Z0 Z1 Z2 D5 D6 E5 E6 S5' S6 HB2
 go_wp2_with fail
 obtain ⟨u4,hu4⟩:∃ u4,u4=w3.alloc (Obj.cells #[.bool (WI.of (x*y)).ng,.bool (WI.of (x*y)).ov,.slice A7 (dg (WI.of (x*y)).sz).length c7] 65):=⟨_,rfl⟩
 rw [← hu4]
 obtain ⟨g7,hg7⟩:∃ g7,g7=w3.heap.size:=⟨_,rfl⟩
 rw [← hg7]
 have F0:Hid (Blk u4 w.heap.size #[.int .i64 a,.int .i64 b,.int .i64 d] 25):=by rw [hu4];exact Z0'.out.alloc _
 have F2:Hid (Blk u4 (w.heap.size+1+1) #[.bool false,.bool false,.slice none 0 0] 65):=by rw [hu4];exact Z2'.out.alloc _
 have F5:Hid (Blk u4 g5 (bigC (WI.of x) A5 c5) 65):=by rw [hu4];exact D5'.out.alloc _
 have F6:Hid (Blk u4 g6 (bigC (WI.of y) A6 c6) 65):=by rw [hu4];exact D6'.out.alloc _
 have F7:Hid (Blk u4 g7 (bigC (WI.of (x*y)) A7 c7) 65):=by rw [hu4,hg7];exact Blk.new _ _ _
 have HU:Hid (Below w3.heap.size w3 u4):=by rw [hu4];exact (Below.refl _ _).alloc (Nat.le_refl _) _
 have HS5:=Lib.hid (E5'.out.below HU.out)
 have HS6:=Lib.hid (E6'.out.below HU.out)
 have HS7:=Lib.hid (R7.out.below HU.out)
 have HB0:=Lib.hid (HB3.out.trans (HU.out.mono HB3.out.size))
 have HB:Hid (Below u4.heap.size u4 u4.drew):=(Below.refl _ _).drew
 clear hu4 hg7 Z0' Z2' D5' D6' E5' E6' R7 HB3 HU HXY
 obtain ⟨x2,hx2⟩:∃ t,t=WI.of (a*(x*x)+d*(y*y)+(b*(x*y)+b*(x*y))):=⟨_,rfl⟩
 have L:=quad_parts a b d x y K.out.1 K.out.2.1 K.out.2.2.1 K.out.2.2.2.1 K.out.2.2.2.2
 rw [← hx2] at L
 obtain ⟨l1,l2,l3,l4,l5',l6',l7,l8⟩:=L
 have M1:=Lib.hid l1
 have M2:=Lib.hid l2
 have M3:=Lib.hid l3
 have M4:=Lib.hid l4
 have M5:=Lib.hid l5'
 have M6:=Lib.hid l6'
 have M7:=Lib.hid l7
 have M8:=Lib.hid l8
 have HX2:=Lib.hid hx2
 clear l1 l2 l3 l4 l5' l6' l7 l8 hx2
 have f00:=@inh_cell _ _ _ (show u4.cell? _=some (.int .i64 a) from F0.out.cell (i:=0) rfl)
 have f01:=@inh_cell _ _ _ (show u4.cell? _=some (.int .i64 b) from F0.out.cell (i:=1) rfl)
 have f02:=@inh_cell _ _ _ (show u4.cell? _=some (.int .i64 d) from F0.out.cell (i:=2) rfl)
 have f50:=@inh_cell _ _ _ (show u4.cell? _=some (.bool (WI.of x).ng) from F5.out.cell (i:=0) rfl)
 have f51:=@inh_cell _ _ _ (show u4.cell? _=some (.bool (WI.of x).ov) from F5.out.cell (i:=1) rfl)
 have f52:=@inh_cell _ _ _ (show u4.cell? _=some (.slice A5 (dg (WI.of x).sz).length c5) from F5.out.cell (i:=2) rfl)
 have f60:=@inh_cell _ _ _ (show u4.cell? _=some (.bool (WI.of y).ng) from F6.out.cell (i:=0) rfl)
 have f61:=@inh_cell _ _ _ (show u4.cell? _=some (.bool (WI.of y).ov) from F6.out.cell (i:=1) rfl)
 have f62:=@inh_cell _ _ _ (show u4.cell? _=some (.slice A6 (dg (WI.of y).sz).length c6) from F6.out.cell (i:=2) rfl)
 have f70:=@inh_cell _ _ _ (show u4.cell? _=some (.bool (WI.of (x*y)).ng) from F7.out.cell (i:=0) rfl)
 have f71:=@inh_cell _ _ _ (show u4.cell? _=some (.bool (WI.of (x*y)).ov) from F7.out.cell (i:=1) rfl)
 have f72:=@inh_cell _ _ _ (show u4.cell? _=some (.slice A7 (dg (WI.of (x*y)).sz).length c7) from F7.out.cell (i:=2) rfl)
 refine wp_region_ghost' 23 (fun k=>match k with|2=>some (gBig (WI.of a))|5=>some (gBig (WI.of (x*x)))|6=>some (gBig (WI.of (a*(x*x))))|9=>some (gBig (WI.of b))|12=>some (gBig (WI.of (x*y+x*y)))|13=>some (gBig (WI.of (b*(x*y+x*y))))|14=>some (gBig (WI.of (a*(x*x)+b*(x*y+x*y))))|17=>some (gBig (WI.of d))|20=>some (gBig (WI.of (y*y)))|21=>some (gBig (WI.of (d*(y*y))))|22=>some (gBig x2)|_=>none) (fun k=>match k with|6=>[2,5]|13=>[9,12]|14=>[6,13]|21=>[17,20]|22=>[14,21]|_=>[]) (by kernel_rfl) (by kernel_rfl) ?_;refine ex_listH ?_;apply Exists.intro;refine ex_listH ?_;apply Exists.intro;refine ex_listH ⟨undef,?_⟩;refine ex_listH ?_;apply Exists.intro;refine ex_listH ?_;apply Exists.intro;refine ex_listH ⟨undef,?_⟩;refine ex_listH ⟨undef,?_⟩;refine ex_listH ?_;apply Exists.intro;refine ex_listH ?_;apply Exists.intro;refine ex_listH ⟨undef,?_⟩;refine ex_listH ?_;apply Exists.intro;refine ex_listH ?_;apply Exists.intro;refine ex_listH ⟨undef,?_⟩;refine ex_listH ⟨undef,?_⟩;refine ex_listH ⟨undef,?_⟩;refine ex_listH ?_;apply Exists.intro;refine ex_listH ?_;apply Exists.intro;refine ex_listH ⟨undef,?_⟩;refine ex_listH ?_;apply Exists.intro;refine ex_listH ?_;apply Exists.intro;refine ex_listH ⟨undef,?_⟩;refine ex_listH ⟨undef,?_⟩;refine ex_listH ⟨undef,?_⟩;refine ⟨[],fun gg NN hN=>?_⟩;simp only [List.append_eq,List.cons_append,List.nil_append,List.take_succ_cons,List.take_zero,List.drop_succ_cons,List.drop_zero];(repeat (refine lexH_quiet rfl ?_;go_big_quiet_step (first|exact rfl|(fail));refine wpQuiet_nil ⟨?hd,?_⟩;(case hd=>exact rfl)));(refine lexH_ghost _ (by rfl) (by rfl) ?hex ?_;(case hex=>(intro px;refine ghost_call (fn:=105) (by go_simp;rfl) ?_;exact of_r _ K.out.1.1 K.out.1.2 _));simp only [Act.put,List.setIfInBounds_toArray,List.set_cons_succ,List.set_cons_zero]);(repeat (refine lexH_quiet rfl ?_;go_big_quiet_step (first|exact rfl|(fail));refine wpQuiet_nil ⟨?hd,?_⟩;(case hd=>exact rfl)));(refine lexH_ghost _ (by rfl) (by rfl) ?hex ?_;(case hex=>(intro px;refine ghost_call (fn:=93) (by go_simp;rfl) ?_;exact mul_x _ _ _ _ _ _ M1 (BigIs.mk (HS5.out.below (inh_low HB.out px))) (BigIs.mk (HS5.out.below (inh_low HB.out px)))));simp only [Act.put,List.setIfInBounds_toArray,List.set_cons_succ,List.set_cons_zero]);(refine lexH_ghost _ (by rfl) (by rfl) ?hex ?_;(case hex=>(intro px;refine ghost_call (fn:=93) (by go_simp;rfl) ?_;exact mul_x _ _ _ _ _ _ M2 (px.has 2 (hN 6 2 (by simp)) _ rfl) (px.has 5 (hN 6 5 (by simp)) _ rfl)));simp only [Act.put,List.setIfInBounds_toArray,List.set_cons_succ,List.set_cons_zero]);(repeat (refine lexH_quiet rfl ?_;go_big_quiet_step (first|exact rfl|(fail));refine wpQuiet_nil ⟨?hd,?_⟩;(case hd=>exact rfl)));(refine lexH_ghost _ (by rfl) (by rfl) ?hex ?_;(case hex=>(intro px;refine ghost_call (fn:=105) (by go_simp;rfl) ?_;exact of_r _ K.out.2.1.1 K.out.2.1.2 _));simp only [Act.put,List.setIfInBounds_toArray,List.set_cons_succ,List.set_cons_zero]);(repeat (refine lexH_quiet rfl ?_;go_big_quiet_step (first|exact rfl|(fail));refine wpQuiet_nil ⟨?hd,?_⟩;(case hd=>exact rfl)));(refine lexH_ghost _ (by rfl) (by rfl) ?hex ?_;(case hex=>(intro px;refine ghost_call (fn:=92) (by go_simp;rfl) ?_;exact add_x _ _ _ _ _ _ M3 (BigIs.mk (HS7.out.below (inh_low HB.out px))) (BigIs.mk (HS7.out.below (inh_low HB.out px)))));simp only [Act.put,List.setIfInBounds_toArray,List.set_cons_succ,List.set_cons_zero]);(refine lexH_ghost _ (by rfl) (by rfl) ?hex ?_;(case hex=>(intro px;refine ghost_call (fn:=93) (by go_simp;rfl) ?_;exact mul_x _ _ _ _ _ _ M4 (px.has 9 (hN 13 9 (by simp)) _ rfl) (px.has 12 (hN 13 12 (by simp)) _ rfl)));simp only [Act.put,List.setIfInBounds_toArray,List.set_cons_succ,List.set_cons_zero]);(refine lexH_ghost _ (by rfl) (by rfl) ?hex ?_;(case hex=>(intro px;refine ghost_call (fn:=92) (by go_simp;rfl) ?_;exact add_x _ _ _ _ _ _ M5 (px.has 6 (hN 14 6 (by simp)) _ rfl) (px.has 13 (hN 14 13 (by simp)) _ rfl)));simp only [Act.put,List.setIfInBounds_toArray,List.set_cons_succ,List.set_cons_zero]);(repeat (refine lexH_quiet rfl ?_;go_big_quiet_step (first|exact rfl|(fail));refine wpQuiet_nil ⟨?hd,?_⟩;(case hd=>exact rfl)));(refine lexH_ghost _ (by rfl) (by rfl) ?hex ?_;(case hex=>(intro px;refine ghost_call (fn:=105) (by go_simp;rfl) ?_;exact of_r _ K.out.2.2.1.1 K.out.2.2.1.2 _));simp only [Act.put,List.setIfInBounds_toArray,List.set_cons_succ,List.set_cons_zero]);(repeat (refine lexH_quiet rfl ?_;go_big_quiet_step (first|exact rfl|(fail));refine wpQuiet_nil ⟨?hd,?_⟩;(case hd=>exact rfl)));(refine lexH_ghost _ (by rfl) (by rfl) ?hex ?_;(case hex=>(intro px;refine ghost_call (fn:=93) (by go_simp;rfl) ?_;exact mul_x _ _ _ _ _ _ M6 (BigIs.mk (HS6.out.below (inh_low HB.out px))) (BigIs.mk (HS6.out.below (inh_low HB.out px)))));simp only [Act.put,List.setIfInBounds_toArray,List.set_cons_succ,List.set_cons_zero]);(refine lexH_ghost _ (by rfl) (by rfl) ?hex ?_;(case hex=>(intro px;refine ghost_call (fn:=93) (by go_simp;rfl) ?_;exact mul_x _ _ _ _ _ _ M7 (px.has 17 (hN 21 17 (by simp)) _ rfl) (px.has 20 (hN 21 20 (by simp)) _ rfl)));simp only [Act.put,List.setIfInBounds_toArray,List.set_cons_succ,List.set_cons_zero]);(refine lexH_ghost _ (by rfl) (by rfl) ?hex ?_;(case hex=>(intro px;refine ghost_call (fn:=92) (by go_simp;rfl) ?_;exact add_x _ _ _ _ _ _ M8 (px.has 14 (hN 22 14 (by simp)) _ rfl) (px.has 21 (hN 22 21 (by simp)) _ rfl)));simp only [Act.put,List.setIfInBounds_toArray,List.set_cons_succ,List.set_cons_zero])
 refine lexH_nil ?_
 intro w6 hb6 hh
 have hb6':Below u4.heap.size u4 w6:=hb6
 obtain ⟨A9,c9,e9,r9⟩:=(show BigIs w6 (gg 22) x2 from hh 22 _ (by decide) rfl).opened
 have R9:=Lib.hid r9
 have F2':=Lib.hid (F2.out.keep hb6')
 have HB6:=Lib.hid (HB0.out.trans (hb6'.mono HB0.out.size))
 rw [e9]
 have u50:=F2'.out.cell (i:=0) rfl
 have u51:=F2'.out.cell (i:=1) rfl
 have u52:=F2'.out.cell (i:=2) rfl
 have uf5:=F2'.out.frozen
 clear hb6 hb6' hh r9 e9 f00 f01 f02 f50 f51 f52 f60 f61 f62 f70 f71 f72
 go_wp2_with fail
 have G2:=((F2'.out.setCell_same 0 (.bool x2.ng)).setCell_same 1 (.bool x2.ov)).setCell_same 2 (.slice A9 (dg x2.sz).length c9)
 refine bodyPost_row 3 #[.bool x2.ng,.bool x2.ov,.slice A9 (dg x2.sz).length c9] rfl rfl rfl Tryz.underlying65 rfl (by kernel_rfl) (G2.row?_all 3 (by simp)) ⟨⟨_,rfl,?_⟩,((HB6.out.setCell (by simp;omega) _).setCell (by simp;omega) _).setCell (by simp;omega) _⟩
 rw [← HX2.out]
 exact BigIs.mk (R9.out.set3 (F2'.out.cell (i:=0) rfl) (F2'.out.cell (i:=1) rfl) (F2'.out.cell (i:=2) rfl) _ _ _)
set_option linter.unusedSimpArgs false
open Go.RowKit
section
set_option maxRecDepth 100000
theorem sy_0 (a b d:Int) (w:World):Sem.run Tryz.prog (Instr.index 217 (.agg #[.int .i64 a,.int .i64 b,.int .i64 d]) (.int .i64 0)) w = .ok (.int .i64 a) w:=by rfl
theorem sy_1 (a b d:Int) (w:World):Sem.run Tryz.prog (Instr.index 217 (.agg #[.int .i64 a,.int .i64 b,.int .i64 d]) (.int .i64 1)) w = .ok (.int .i64 b) w:=by rfl
theorem sy_2 (a b d:Int) (w:World):Sem.run Tryz.prog (Instr.index 217 (.agg #[.int .i64 a,.int .i64 b,.int .i64 d]) (.int .i64 2)) w = .ok (.int .i64 d) w:=by rfl
end
theorem in3 (n:Int):(n < -2305843009213693952∧inB n=false)∨((¬ n < -2305843009213693952∧2305843009213693952<n)∧inB n=false)∨((¬ n < -2305843009213693952∧¬ 2305843009213693952<n)∧inB n=true):=by
 unfold inB
 by_cases h1:n < -2305843009213693952
 ·left;exact ⟨h1,by simp;omega⟩
 ·by_cases h2:2305843009213693952<n
  ·right;left;exact ⟨⟨h1,h2⟩,by simp;omega⟩
  ·right;right;exact ⟨⟨h1,h2⟩,by simp;omega⟩
theorem maymat_r (a b d:Int) (w:World) :
  Calls Tryz.prog 153 #[symV a b d] w fun e w'=>e = .returned (.bool (mayB a b d))∧Below w.heap.size w w':=by
 have E:Hid (mayB a b d=(inB a&&inB b&&inB d)):=rfl
 have i0:=fun w=>sy_0 a b d w
 have i1:=fun w=>sy_1 a b d w
 have i2:=fun w=>sy_2 a b d w
 obtain ⟨p,hp⟩:∃ p,inB a=p:=⟨_,rfl⟩
 obtain ⟨q,hq⟩:∃ p,inB b=p:=⟨_,rfl⟩
 obtain ⟨r,hr⟩:∃ p,inB d=p:=⟨_,rfl⟩
 have ca:=in3 a
 have cb:=in3 b
 have cd:=in3 d
 rw [hp] at ca E
 rw [hq] at cb E
 rw [hr] at cd E
 clear hp hq hr
 rcases ca with ⟨a1,rfl⟩|⟨⟨a1,a2⟩,rfl⟩|⟨⟨a1,a2⟩,rfl⟩
 ·clear cb cd
  go_enter Tryz.func153,Tryz.ntmps153
  go_wp2_with fail
  refine wp_loop_rounds 4 ?_
  rw [rounds_succ]
  go_wp2_with fail
  go_ret
  exact ⟨by rw [E.out];rfl,below_by⟩
 ·clear cb cd
  go_enter Tryz.func153,Tryz.ntmps153
  go_wp2_with fail
  refine wp_loop_rounds 4 ?_
  rw [rounds_succ]
  go_wp2_with fail
  go_ret
  exact ⟨by rw [E.out];rfl,below_by⟩
 ·rcases cb with ⟨b1,rfl⟩|⟨⟨b1,b2⟩,rfl⟩|⟨⟨b1,b2⟩,rfl⟩
  ·clear cd
   go_enter Tryz.func153,Tryz.ntmps153
   go_wp2_with fail
   refine wp_loop_rounds 4 ?_
   rw [rounds_succ]
   go_wp2_with fail
   rw [rounds_succ]
   go_wp2_with fail
   go_ret
   exact ⟨by rw [E.out];rfl,below_by⟩
  ·clear cd
   go_enter Tryz.func153,Tryz.ntmps153
   go_wp2_with fail
   refine wp_loop_rounds 4 ?_
   rw [rounds_succ]
   go_wp2_with fail
   rw [rounds_succ]
   go_wp2_with fail
   go_ret
   exact ⟨by rw [E.out];rfl,below_by⟩
  ·rcases cd with ⟨d1,rfl⟩|⟨⟨d1,d2⟩,rfl⟩|⟨⟨d1,d2⟩,rfl⟩
   ·go_enter Tryz.func153,Tryz.ntmps153
    go_wp2_with fail
    refine wp_loop_rounds 4 ?_
    rw [rounds_succ]
    go_wp2_with fail
    rw [rounds_succ]
    go_wp2_with fail
    rw [rounds_succ]
    go_wp2_with fail
    go_ret
    exact ⟨by rw [E.out];rfl,below_by⟩
   ·go_enter Tryz.func153,Tryz.ntmps153
    go_wp2_with fail
    refine wp_loop_rounds 4 ?_
    rw [rounds_succ]
    go_wp2_with fail
    rw [rounds_succ]
    go_wp2_with fail
    rw [rounds_succ]
    go_wp2_with fail
    go_ret
    exact ⟨by rw [E.out];rfl,below_by⟩
   ·go_enter Tryz.func153,Tryz.ntmps153
    go_wp2_with fail
    refine wp_loop_rounds 4 ?_
    rw [rounds_succ]
    go_wp2_with fail
    rw [rounds_succ]
    go_wp2_with fail
    rw [rounds_succ]
    go_wp2_with fail
    rw [rounds_succ]
    go_wp2_with fail
    go_ret
    exact ⟨by rw [E.out];rfl,below_by⟩
theorem adjmat_r (a b d:Int) (w:World) :
  Calls Tryz.prog 87 #[symV a b d] w fun e w'=>e = .returned (adjV a b d)∧Below w.heap.size w w':=by
 have E:Hid (adjV a b d=if mayB a b d then symV d (-b) a else symV 0 0 0):=rfl
 cases hm:mayB a b d with
 | true =>
  have hw:IntKind.i64.wrap (-b) = -b:=by have:=(mayB_iff a b d).1 hm;rw [IntKind.wrap_i64];omega
  go_enter Tryz.func87,Tryz.ntmps87
  go_wp2_with fail
  refine (maymat_r _ _ _ _).mono ?_;rintro e w1 ⟨rfl,hb1⟩;rw [hm];have z_w1:=hb1.size;(try simp at z_w1);obtain ⟨yw1aa,cw1aa,fw1aa,rw1aa,tw1aa,pw1aa⟩:=bq hb1 (w.heap.size);obtain ⟨yw1ab,cw1ab,fw1ab,rw1ab,tw1ab,pw1ab⟩:=bq hb1 (w.heap.size+1)
  go_wp2
  exact bodyPost_row 3 #[.int .i64 d,.int .i64 (-b),.int .i64 a] rfl rfl rfl Tryz.underlying25 rfl (by kernel_rfl) (rc3 (by go_simp) (by go_simp) (by go_simp)) ⟨by rw [E.out,hm];rfl,below_by⟩
 | false =>
  go_enter Tryz.func87,Tryz.ntmps87
  go_wp2_with fail
  refine (maymat_r _ _ _ _).mono ?_;rintro e w1 ⟨rfl,hb1⟩;rw [hm];have z_w1:=hb1.size;(try simp at z_w1);obtain ⟨yw1aa,cw1aa,fw1aa,rw1aa,tw1aa,pw1aa⟩:=bq hb1 (w.heap.size);obtain ⟨yw1ab,cw1ab,fw1ab,rw1ab,tw1ab,pw1ab⟩:=bq hb1 (w.heap.size+1)
  go_wp2
  exact bodyPost_row 3 #[.int .i64 0,.int .i64 0,.int .i64 0] rfl rfl rfl Tryz.underlying25 rfl (by kernel_rfl) (rc3 (by go_simp) (by go_simp) (by go_simp)) ⟨by rw [E.out,hm];rfl,below_by⟩
end Go.Proofs.YtilginoibhfeiaaGreat
