/- The walks of package wide's Div, Cmp, Int64. The walks of package wide's Int64, Sqrt. The walk of package wide's Sqrt. The walks of package root. The walks of package root: Up, MulDiv, MulDivUp, fit, Floor, Ceil, Near. The walks of package root: fit, Floor, Ceil, Near. Plain laws of roots and quotients; package root's functions at whole numbers. No program in sight. The walks of RootSquares and of what package root's laws' awake says. -/
import Derived.Test.YtechbdnhalmobaaGreatDoorBX
import Derived.Deep.LoopGhost
import Derived.Deep.CutBlock
import Derived.Deep.Cut
set_option maxRecDepth 100000
set_option maxHeartbeats 16000000
namespace Go.Proofs.YtechbdnhalmobaaGreatDoor
set_option linter.unusedSimpArgs false
set_option linter.unusedVariables false
open Go.RowKit

theorem bodyPost_row_t {P:Program} {fn:Func} {R:Ending→World→Prop} {a:Act} {w:World} {p u:Tmp} {ty:TypeId} {g:Nat} (n:Nat) (cs:Array Value) (v:Value) {d:TypeDesc}
  (h:fn.results=#[.cell p ty,.tmp u]) (hde:a.defers = []) (hp:a.tmps.getD p undef = .pointer (some ⟨g,0,none⟩)) (hv:a.tmps.getD u undef=v)
  (hu:P.underlying ty=some d) (hd:d.isRow=true) (hi:(P.info? ty).map (·.size)=some n) (hg:w.row? g 0 n=some cs) (hR:R (.returned (.tuple #[.agg cs,v])) w) :
  bodyPost P fn R .ret a w:=by
 refine bodyPost_ret (v := .tuple #[.agg cs,v]) ?_ hde hR
 rw [results_cell_tmp h,hp,hv]
 simp [asAddr,Result.andThen,run_loadVar_row? w g 0 n ty cs d hu hd hi hg]
theorem row_1:(rowW 16 0).setIfInBounds 0 (.int .u64 1)=rowW 16 1:=row_one 1 (by decide)
theorem div_over (x y:WI) (h:x.ov=true∨y.ov=true) (w:World) :
  Calls Tryz.prog 154 #[.agg x.cells,.agg y.cells] w fun e w'=>e = .returned (.tuple #[.agg (x.div y).1.cells,.int .i64 (x.div y).2])∧Below w.heap.size w w':=by
 rw [WI.div_over x y h]
 have E:=Lib.hid WI.of_0
 cases hx:x.ov with
 | true =>
  clear h
  go_enter Tryz.func154,Tryz.ntmps154
  go_wp2_with fail
  exact bodyPost_row_t 18 (cellsI false false 0) (.int .i64 2) rfl rfl rfl rfl Tryz.underlying153 rfl info_Int (by go_simp) ⟨by rw [E.out],below_by⟩
 | false =>
  have hy:y.ov=true:=by rcases h with h|h <;> simp_all
  clear h
  go_enter Tryz.func154,Tryz.ntmps154
  go_wp2_with fail
  exact bodyPost_row_t 18 (cellsI false false 0) (.int .i64 2) rfl rfl rfl rfl Tryz.underlying153 rfl info_Int (by go_simp) ⟨by rw [E.out],below_by⟩
theorem div_zero (x y:WI) (hx:x.ov=false) (hy:y.ov=false) (h:y.sz=0) (w:World) :
  Calls Tryz.prog 154 #[.agg x.cells,.agg y.cells] w fun e w'=>e = .returned (.tuple #[.agg (x.div y).1.cells,.int .i64 (x.div y).2])∧Below w.heap.size w w':=by
 rw [WI.div_zero x y hx hy h]
 have E:=Lib.hid WI.of_0
 have hq:eqW y.sz 0=true:=by rw [eqW_zero _ y.sz_lt'];simp [h]
 clear h
 go_enter Tryz.func154,Tryz.ntmps154
 go_wp2_with fail
 exact bodyPost_row_t 18 (cellsI false false 0) (.int .i64 1) rfl rfl rfl rfl Tryz.underlying153 rfl info_Int (by go_simp) ⟨by rw [E.out],below_by⟩
theorem div_some (x y:WI) (hx:x.ov=false) (hy:y.ov=false) (h:y.sz≠0) (w:World) :
  Calls Tryz.prog 154 #[.agg x.cells,.agg y.cells] w fun e w'=>e = .returned (.tuple #[.agg (x.div y).1.cells,.int .i64 (x.div y).2])∧Below w.heap.size w w':=by
 rw [WI.div_some x y hx hy h]
 have hq:eqW y.sz 0=false:=by rw [eqW_zero _ y.sz_lt'];simp [h]
 obtain ⟨Q,hQ⟩:∃ Q,Q=x.sz/y.sz:=⟨_,rfl⟩
 obtain ⟨R,hR⟩:∃ R,R=x.sz%y.sz:=⟨_,rfl⟩
 have hQl:Q<lim:=by rw [hQ];exact Nat.lt_of_le_of_lt (Nat.div_le_self _ _) x.sz_lt
 have hQ16:Q<W16:=Nat.lt_of_lt_of_le hQl lim_le
 have hQ17:Q+1<W16:=by have:=W16_two;have:=lim_pos;omega
 have hRl:R<W16:=by rw [hR];exact Nat.lt_of_le_of_lt (Nat.mod_le _ _) x.sz_lt'
 have hRq:=eqW_zero R hRl
 rw [← hQ,← hR]
 have HQ:=Lib.hid hQ
 have HR:=Lib.hid hR
 have HY:=Lib.hid h
 have HL:Hid (Q<W16∧Q+1<W16):=⟨hQ16,hQ17⟩
 have r1:=row_1
 clear hQ hR hQl hQ16 hQ17 hRl h
 cases hb:(x.ng != y.ng) with
 | false =>
  have hb':(!x.ng==y.ng)=false:=by rw [← hb];cases x.ng <;> cases y.ng <;> rfl
  have hb2:(x.ng==y.ng)=true:=by revert hb;cases x.ng <;> cases y.ng <;> simp
  clear hRq
  go_enter Tryz.func154,Tryz.ntmps154
  go_wp2_with fail
  refine (divide_c _ _ _ x.sz_lt' y.sz_lt' HY.out).mono ?_;rintro e w1 ⟨rfl,hb1⟩;rw [← HQ.out,← HR.out];have z_w1:=hb1.size;(try simp at z_w1);obtain ⟨yw1aa,cw1aa,fw1aa,rw1aa,tw1aa,pw1aa⟩:=bq hb1 (w.heap.size);obtain ⟨yw1ab,cw1ab,fw1ab,rw1ab,tw1ab,pw1ab⟩:=bq hb1 (w.heap.size+1);obtain ⟨yw1ac,cw1ac,fw1ac,rw1ac,tw1ac,pw1ac⟩:=bq hb1 (w.heap.size+1+1)
  go_wp2_with fail
  refine (made_c _ Q HL.out.1 _).mono ?_;rintro e w2 ⟨rfl,hb2⟩;have z_w2:=hb2.size;(try simp at z_w2);obtain ⟨yw2aa,cw2aa,fw2aa,rw2aa,tw2aa,pw2aa⟩:=bq hb2 (w.heap.size);obtain ⟨yw2ab,cw2ab,fw2ab,rw2ab,tw2ab,pw2ab⟩:=bq hb2 (w.heap.size+1);obtain ⟨yw2ac,cw2ac,fw2ac,rw2ac,tw2ac,pw2ac⟩:=bq hb2 (w.heap.size+1+1)
  go_wp2_with fail
  exact bodyPost_row_t 18 (WI.of (sgn false Q)).cells (.int .i64 0) rfl rfl rfl rfl Tryz.underlying153 rfl info_Int (by go_simp) ⟨rfl,below_by⟩
 | true =>
  have hb':(!x.ng==y.ng)=true:=by rw [← hb];cases x.ng <;> cases y.ng <;> rfl
  by_cases hR0:R=0
  ·have hq2:eqW R 0=true:=by rw [hRq];simp [hR0]
   have HR0:=Lib.hid hR0
   clear hRq hR0
   go_enter Tryz.func154,Tryz.ntmps154
   go_wp2_with fail
   refine (divide_c _ _ _ x.sz_lt' y.sz_lt' HY.out).mono ?_;rintro e w1 ⟨rfl,hb1⟩;rw [← HQ.out,← HR.out];have z_w1:=hb1.size;(try simp at z_w1);obtain ⟨yw1aa,cw1aa,fw1aa,rw1aa,tw1aa,pw1aa⟩:=bq hb1 (w.heap.size);obtain ⟨yw1ab,cw1ab,fw1ab,rw1ab,tw1ab,pw1ab⟩:=bq hb1 (w.heap.size+1);obtain ⟨yw1ac,cw1ac,fw1ac,rw1ac,tw1ac,pw1ac⟩:=bq hb1 (w.heap.size+1+1)
   go_wp2_with fail
   refine (made_c _ Q HL.out.1 _).mono ?_;rintro e w2 ⟨rfl,hb2⟩;have z_w2:=hb2.size;(try simp at z_w2);obtain ⟨yw2aa,cw2aa,fw2aa,rw2aa,tw2aa,pw2aa⟩:=bq hb2 (w.heap.size);obtain ⟨yw2ab,cw2ab,fw2ab,rw2ab,tw2ab,pw2ab⟩:=bq hb2 (w.heap.size+1);obtain ⟨yw2ac,cw2ac,fw2ac,rw2ac,tw2ac,pw2ac⟩:=bq hb2 (w.heap.size+1+1)
   go_wp2_with fail
   all_goals exact bodyPost_row_t 18 (WI.of (sgn true Q)).cells (.int .i64 0) rfl rfl rfl rfl Tryz.underlying153 rfl info_Int (by go_simp) ⟨by first|rfl|(rw [HR0.out];rfl),below_by⟩
  ·have hq2:eqW R 0=false:=by rw [hRq];simp [hR0]
   have HR0:=Lib.hid hR0
   clear hRq hR0
   go_enter Tryz.func154,Tryz.ntmps154
   go_wp2_with fail
   refine (divide_c _ _ _ x.sz_lt' y.sz_lt' HY.out).mono ?_;rintro e w1 ⟨rfl,hb1⟩;rw [← HQ.out,← HR.out];have z_w1:=hb1.size;(try simp at z_w1);obtain ⟨yw1aa,cw1aa,fw1aa,rw1aa,tw1aa,pw1aa⟩:=bq hb1 (w.heap.size);obtain ⟨yw1ab,cw1ab,fw1ab,rw1ab,tw1ab,pw1ab⟩:=bq hb1 (w.heap.size+1);obtain ⟨yw1ac,cw1ac,fw1ac,rw1ac,tw1ac,pw1ac⟩:=bq hb1 (w.heap.size+1+1)
   go_wp2_with fail
   have ne2:¬ (w.heap.size+1+1=w1.heap.size):=by omega
   refine (add_c _ _ _ _ Q 1 _ (.of_blk (((Blk.new _ _ _).alloc _).alloc _)) (.of_blk (Blk.new' _ _ _ (by simp)))).mono ?_;rintro e w2 ⟨rfl,hb2⟩;have z_w2:=hb2.size;(try simp at z_w2);obtain ⟨yw2aa,cw2aa,fw2aa,rw2aa,tw2aa,pw2aa⟩:=bq hb2 (w.heap.size);obtain ⟨yw2ab,cw2ab,fw2ab,rw2ab,tw2ab,pw2ab⟩:=bq hb2 (w.heap.size+1);obtain ⟨yw2ac,cw2ac,fw2ac,rw2ac,tw2ac,pw2ac⟩:=bq hb2 (w.heap.size+1+1);obtain ⟨yw2ba,cw2ba,fw2ba,rw2ba,tw2ba,pw2ba⟩:=bq hb2 (w1.heap.size);obtain ⟨yw2bb,cw2bb,fw2bb,rw2bb,tw2bb,pw2bb⟩:=bq hb2 (w1.heap.size+1);obtain ⟨yw2bc,cw2bc,fw2bc,rw2bc,tw2bc,pw2bc⟩:=bq hb2 (w1.heap.size+1+1)
   go_wp2_with fail
   refine (made_c _ (Q+1) HL.out.2 _).mono ?_;rintro e w3 ⟨rfl,hb3⟩;have z_w3:=hb3.size;(try simp at z_w3);obtain ⟨yw3aa,cw3aa,fw3aa,rw3aa,tw3aa,pw3aa⟩:=bq hb3 (w.heap.size);obtain ⟨yw3ab,cw3ab,fw3ab,rw3ab,tw3ab,pw3ab⟩:=bq hb3 (w.heap.size+1);obtain ⟨yw3ac,cw3ac,fw3ac,rw3ac,tw3ac,pw3ac⟩:=bq hb3 (w.heap.size+1+1);obtain ⟨yw3ba,cw3ba,fw3ba,rw3ba,tw3ba,pw3ba⟩:=bq hb3 (w1.heap.size);obtain ⟨yw3bb,cw3bb,fw3bb,rw3bb,tw3bb,pw3bb⟩:=bq hb3 (w1.heap.size+1);obtain ⟨yw3bc,cw3bc,fw3bc,rw3bc,tw3bc,pw3bc⟩:=bq hb3 (w1.heap.size+1+1)
   go_wp2_with fail
   all_goals exact bodyPost_row_t 18 (WI.of (sgn true (Q+1))).cells (.int .i64 0) rfl rfl rfl rfl Tryz.underlying153 rfl info_Int (by go_simp) ⟨by simp,below_by⟩
theorem div_I (x y:WI) (w:World) :
  Calls Tryz.prog 154 #[.agg x.cells,.agg y.cells] w fun e w'=>e = .returned (.tuple #[.agg (x.div y).1.cells,.int .i64 (x.div y).2])∧Below w.heap.size w w':=by
 cases hx:x.ov with
 | true=>exact div_over x y (.inl hx) w
 | false =>
  cases hy:y.ov with
  | true=>exact div_over x y (.inr hy) w
  | false =>
   by_cases h:y.sz=0
   ·exact div_zero x y hx hy h w
   ·exact div_some x y hx hy h w
def WI.cmp (x y:WI):Int × Bool :=
 match x.v,y.v with
 | some a,some b=>(if a<b then -1 else if b<a then 1 else 0,true)
 | _,_=>(0,false)
theorem WI.cmp_over (x y:WI) (h:x.ov=true∨y.ov=true):x.cmp y=(0,false):=by
 unfold WI.cmp;unfold WI.ov at h
 cases hx:x.v <;> cases hy:y.v <;> simp_all
theorem WI.ng_sz (x:WI) (h:x.ng=true):x.sz≠0:=by
 unfold WI.ng at h;unfold WI.sz
 cases hx:x.v <;> simp_all <;> omega
theorem WI.cmp_some (x y:WI) (hx:x.ov=false) (hy:y.ov=false):x.cmp y=(if x.ng then (if y.ng then cmpN y.sz x.sz else -1) else (if y.ng then 1 else cmpN x.sz y.sz),true):=by
 have h1:=x.ng_sz
 have h2:=y.ng_sz
 unfold WI.cmp;rw [WI.some_of_ov hx,WI.some_of_ov hy]
 refine congrArg (fun t=>(t,true)) ?_
 simp only [sgn,cmpN]
 cases hxn:x.ng with
 | true =>
  have h3:=h1 hxn
  cases hyn:y.ng with
  | true=>simp only [if_true];(repeat' split) <;> first|rfl|omega
  | false=>simp only [if_true,Bool.false_eq_true,if_false];(repeat' split) <;> first|rfl|omega
 | false =>
  cases hyn:y.ng with
  | true=>have h4:=h2 hyn;simp only [if_true,Bool.false_eq_true,if_false];(repeat' split) <;> first|rfl|omega
  | false=>simp only [Bool.false_eq_true,if_false];(repeat' split) <;> first|rfl|omega
theorem cmp_I (x y:WI) (w:World) :
  Calls Tryz.prog 262 #[.agg x.cells,.agg y.cells] w fun e w'=>e = .returned (.tuple #[.int .i64 (x.cmp y).1,.bool (x.cmp y).2])∧Below w.heap.size w w':=by
 cases hx:x.ov with
 | true =>
  rw [WI.cmp_over x y (.inl hx)]
  go_enter Tryz.func262,Tryz.ntmps262
  go_wp2_with fail
  go_ret2
  exact ⟨rfl,below_by⟩
 | false =>
  cases hy:y.ov with
  | true =>
   rw [WI.cmp_over x y (.inr hy)]
   go_enter Tryz.func262,Tryz.ntmps262
   go_wp2_with fail
   go_ret2
   exact ⟨rfl,below_by⟩
  | false =>
   rw [WI.cmp_some x y hx hy]
   cases hxn:x.ng with
   | true =>
    cases hyn:y.ng with
    | true =>
     go_enter Tryz.func262,Tryz.ntmps262
     go_wp2_with fail
     refine (cmp_c _ _ _ _ y.sz x.sz _ y.sz_lt' x.sz_lt' (.of_wi (Blk.new' _ _ _ (by simp))) (.of_wi ((Blk.new _ _ _).alloc _))).mono ?_;rintro e w1 ⟨rfl,hb1⟩;have z_w1:=hb1.size;(try simp at z_w1);obtain ⟨yw1aa,cw1aa,fw1aa,rw1aa,tw1aa,pw1aa⟩:=bq hb1 (w.heap.size);obtain ⟨yw1ab,cw1ab,fw1ab,rw1ab,tw1ab,pw1ab⟩:=bq hb1 (w.heap.size+1)
     go_wp2_with fail
     go_ret2
     exact ⟨rfl,below_by⟩
    | false =>
     go_enter Tryz.func262,Tryz.ntmps262
     go_wp2_with fail
     go_ret2
     exact ⟨rfl,below_by⟩
   | false =>
    cases hyn:y.ng with
    | true =>
     go_enter Tryz.func262,Tryz.ntmps262
     go_wp2_with fail
     go_ret2
     exact ⟨rfl,below_by⟩
    | false =>
     go_enter Tryz.func262,Tryz.ntmps262
     go_wp2_with fail
     refine (cmp_c _ _ _ _ x.sz y.sz _ x.sz_lt' y.sz_lt' (.of_wi ((Blk.new _ _ _).alloc _)) (.of_wi (Blk.new' _ _ _ (by simp)))).mono ?_;rintro e w1 ⟨rfl,hb1⟩;have z_w1:=hb1.size;(try simp at z_w1);obtain ⟨yw1aa,cw1aa,fw1aa,rw1aa,tw1aa,pw1aa⟩:=bq hb1 (w.heap.size);obtain ⟨yw1ab,cw1ab,fw1ab,rw1ab,tw1ab,pw1ab⟩:=bq hb1 (w.heap.size+1)
     go_wp2_with fail
     go_ret2
     exact ⟨rfl,below_by⟩
open Go.RowKit

def WI.i64 (x:WI):Int × Bool :=
 match x.v with
 | some a=>if -9223372036854775808≤a∧a≤9223372036854775807 then (a,true) else (0,false)
 | none=>(0,false)
theorem WI.i64_over (x:WI) (h:x.ov=true):x.i64=(0,false):=by
 unfold WI.i64;unfold WI.ov at h
 cases hx:x.v <;> simp_all
theorem WI.i64_some (x:WI) (h:x.ov=false):x.i64=if x.sz≤9223372036854775807∨(x.sz=9223372036854775808∧x.ng=true) then (sgn x.ng x.sz,true) else (0,false):=by
 have h1:=x.ng_sz
 unfold WI.i64;rw [WI.some_of_ov h]
 have e:(-9223372036854775808≤sgn x.ng x.sz∧sgn x.ng x.sz≤9223372036854775807)↔(x.sz≤9223372036854775807∨(x.sz=9223372036854775808∧x.ng=true)):=by
  unfold sgn
  cases hn:x.ng with
  | true =>
   have:=h1 hn
   simp only [if_true,and_true]
   omega
  | false=>simp only [Bool.false_eq_true,if_false,and_false,or_false];omega
 simp only [e]
@[simp] theorem WI.cells_g2 (x : WI) (h : 2 < x.cells.size) : x.cells[2] = .int .u64 (wd x.sz 0) := by
  have h1:x.cells[2+0]? = _:=x.cells_word 0 (by decide)
  exact getElem_of_some h1 h
theorem wd0_small (N:Nat) (h:N<18446744073709551616):wd N 0=(N:Int):=by
 unfold wd wdn;rw [Nat.mul_zero,Nat.pow_zero,Nat.div_one];omega
theorem int64_I (x:WI) (w:World) :
  Calls Tryz.prog 198 #[.agg x.cells] w fun e w'=>e = .returned (.tuple #[.int .i64 x.i64.1,.bool x.i64.2])∧Below w.heap.size w w':=by
 have HLT:=Lib.hid x.sz_lt'
 cases ho:x.ov with
 | true =>
  rw [WI.i64_over x ho]
  go_enter Tryz.func198,Tryz.ntmps198
  go_wp2_with fail
  go_ret2
  exact ⟨rfl,below_by⟩
 | false =>
  rw [WI.i64_some x ho]
  by_cases hb:64<bl x.sz
  ·have hge:¬ x.sz<18446744073709551616:=fun h=>by have:=(bl_le_iff x.sz 64).2 h;omega
   rw [if_neg (by omega)]
   have h1:(64:Int)<(bl x.sz:Int):=by omega
   clear hge hb
   go_enter Tryz.func198,Tryz.ntmps198
   go_wp2_with (go_at_call 263;refine (bits_c _ _ x.sz _ HLT.out (.of_wi (Blk.new _ _ _))).mono ?_;rintro e w' ⟨rfl,rfl⟩)
   go_ret2
   exact ⟨rfl,below_by⟩
  ·have hlt:x.sz<18446744073709551616:=(bl_le_iff x.sz 64).1 (by omega)
   have h1:(bl x.sz:Int)≤64:=by omega
   obtain ⟨N,hN⟩:∃ N,N=x.sz:=⟨_,rfl⟩
   have h2:wd x.sz 0=(N:Int):=by rw [hN];exact wd0_small _ hlt
   rw [← hN] at hlt ⊢
   have HN:=Lib.hid hN
   clear hN hb
   by_cases hg:9223372036854775808<N
   ·rw [if_neg (by omega)]
    have h3:(9223372036854775808:Int)<(N:Int):=by omega
    clear hlt
    go_enter Tryz.func198,Tryz.ntmps198
    go_wp2_with (go_at_call 263;refine (bits_c _ _ x.sz _ HLT.out (.of_wi (Blk.new _ _ _))).mono ?_;rintro e w' ⟨rfl,rfl⟩)
    go_ret2
    exact ⟨rfl,below_by⟩
   ·by_cases he:N=9223372036854775808
    ·cases hn:x.ng with
     | true =>
      rw [if_pos (.inr ⟨he,rfl⟩)]
      have h3:IntKind.u64.wrap (-(N:Int))=(N:Int):=by rw [IntKind.wrap_u64];omega
      have h4:IntKind.i64.wrap (N:Int) = -(N:Int):=by rw [IntKind.wrap_i64];omega
      have h5:¬ 9223372036854775808<N:=hg
      have h6:(N:Int)=9223372036854775808:=by omega
      have HE:=Lib.hid he
      have h7:(N:Int)≤9223372036854775808:=by omega
      clear hlt he
      go_enter Tryz.func198,Tryz.ntmps198
      go_wp2_with (go_at_call 263;refine (bits_c _ _ x.sz _ HLT.out (.of_wi (Blk.new _ _ _))).mono ?_;rintro e w' ⟨rfl,rfl⟩)
      have hw:wrap64 (IntKind.u64.wrap (-9223372036854775808)) = -9223372036854775808:=by rw [IntKind.wrap_u64];unfold wrap64;omega
      go_ret2
      exact ⟨by rw [HE.out,hw];rfl,below_by⟩
     | false =>
      rw [if_neg (by simp;omega)]
      have h6:(N:Int)=9223372036854775808:=by omega
      clear hlt he
      go_enter Tryz.func198,Tryz.ntmps198
      go_wp2_with (go_at_call 263;refine (bits_c _ _ x.sz _ HLT.out (.of_wi (Blk.new _ _ _))).mono ?_;rintro e w' ⟨rfl,rfl⟩)
      go_ret2
      exact ⟨rfl,below_by⟩
    ·rw [if_pos (.inl (by omega))]
     have h5:¬ 9223372036854775808<N:=hg
     have h6:¬ N=9223372036854775808:=he
     have h6':¬ (N:Int)=9223372036854775808:=by omega
     have h7:(N:Int)≤9223372036854775808:=by omega
     cases hn:x.ng with
     | true =>
      have hz:N≠0:=by rw [HN.out];exact x.ng_sz hn
      obtain ⟨Q,hQ⟩:∃ Q,Q=18446744073709551616-N:=⟨_,rfl⟩
      have h3:IntKind.u64.wrap (-(N:Int))=(Q:Int):=by rw [IntKind.wrap_u64];omega
      have h4:IntKind.i64.wrap (Q:Int) = -(N:Int):=by rw [IntKind.wrap_i64];omega
      clear hlt he hg hz hQ
      go_enter Tryz.func198,Tryz.ntmps198
      go_wp2_with (go_at_call 263;refine (bits_c _ _ x.sz _ HLT.out (.of_wi (Blk.new _ _ _))).mono ?_;rintro e w' ⟨rfl,rfl⟩)
      go_ret2
      exact ⟨rfl,below_by⟩
     | false =>
      have h4:IntKind.i64.wrap (N:Int)=(N:Int):=by rw [IntKind.wrap_i64];omega
      clear hlt he hg
      go_enter Tryz.func198,Tryz.ntmps198
      go_wp2_with (go_at_call 263;refine (bits_c _ _ x.sz _ HLT.out (.of_wi (Blk.new _ _ _))).mono ?_;rintro e w' ⟨rfl,rfl⟩)
      go_ret2
      exact ⟨rfl,below_by⟩
def WI.sqrt (x:WI):WI × Int :=
 match x.v with
 | some a=>if a<0 then (WI.of 0,1) else (WI.of (rt a.toNat:Nat),0)
 | none=>(WI.of 0,2)
theorem WI.sqrt_over (x:WI) (h:x.ov=true):x.sqrt=(WI.of 0,2):=by
 unfold WI.sqrt;unfold WI.ov at h
 cases hx:x.v <;> simp_all
theorem WI.sqrt_neg (x:WI) (h:x.ov=false) (hn:x.ng=true):x.sqrt=(WI.of 0,1):=by
 have:=x.ng_sz hn
 unfold WI.sqrt;rw [WI.some_of_ov h]
 simp only [sgn,hn,if_true]
 rw [if_pos (by omega)]
theorem WI.sqrt_pos (x:WI) (h:x.ov=false) (hn:x.ng=false):x.sqrt=(WI.of (rt x.sz:Nat),0):=by
 unfold WI.sqrt;rw [WI.some_of_ov h]
 simp only [sgn,hn,Bool.false_eq_true,if_false]
 rw [if_neg (by omega)]
 rfl
theorem sqrt_easy (x:WI) (h:x.ov=true∨x.ng=true∨x.sz=0) (w:World) :
  Calls Tryz.prog 261 #[.agg x.cells] w fun e w'=>e = .returned (.tuple #[.agg x.sqrt.1.cells,.int .i64 x.sqrt.2])∧Below w.heap.size w w':=by
 have E:=Lib.hid WI.of_0
 cases ho:x.ov with
 | true =>
  rw [WI.sqrt_over x ho]
  clear h
  go_enter Tryz.func261,Tryz.ntmps261
  go_wp2_with fail
  exact bodyPost_row_t 18 (cellsI false false 0) (.int .i64 2) rfl rfl rfl rfl Tryz.underlying153 rfl info_Int (by go_simp) ⟨by rw [E.out],below_by⟩
 | false =>
  cases hn:x.ng with
  | true =>
   rw [WI.sqrt_neg x ho hn]
   clear h
   go_enter Tryz.func261,Tryz.ntmps261
   go_wp2_with fail
   exact bodyPost_row_t 18 (cellsI false false 0) (.int .i64 1) rfl rfl rfl rfl Tryz.underlying153 rfl info_Int (by go_simp) ⟨by rw [E.out],below_by⟩
  | false =>
   have h0:x.sz=0:=by rw [ho,hn] at h;simpa using h
   rw [WI.sqrt_pos x ho hn]
   have hq:eqW x.sz 0=true:=by rw [eqW_zero _ x.sz_lt'];simp [h0]
   have E2:Hid (x.cells=(WI.of (rt x.sz:Nat)).cells):=by
    show _=_
    rw [h0,show ((rt 0:Nat):Int)=0 from rfl,WI.of_0,x.cells_eq,hn,ho,h0]
   clear h h0
   go_enter Tryz.func261,Tryz.ntmps261
   go_wp2_with fail
   exact bodyPost_row_t 18 x.cells (.int .i64 0) rfl rfl rfl rfl Tryz.underlying153 rfl info_Int (by go_simp) ⟨by rw [E2.out],below_by⟩
open Go.RowKit

theorem sqrt_main (x:WI) (ho:x.ov=false) (hn:x.ng=false) (h0:x.sz≠0) (w:World) :
  Calls Tryz.prog 261 #[.agg x.cells] w fun e w'=>e = .returned (.tuple #[.agg x.sqrt.1.cells,.int .i64 x.sqrt.2])∧Below w.heap.size w w':=by
 rw [WI.sqrt_pos x ho hn]
 have hq:eqW x.sz 0=false:=by rw [eqW_zero _ x.sz_lt'];simp [h0]
 have HLT:=Lib.hid x.sz_lt'
 have hbl:=(lim_bl x.sz).2 x.sz_lt
 obtain ⟨b,hb⟩:∃ b,b=bl x.sz:=⟨_,rfl⟩
 obtain ⟨k,hk⟩:∃ k,k=(b+1)/2:=⟨_,rfl⟩
 have hk1:k≤512:=by omega
 have k1:wrap64 ((b:Int)+1)=(b:Int)+1:=by unfold wrap64;omega
 have k2:((b:Int)+1).tdiv 2=(k:Int):=by rw [Int.tdiv_eq_ediv_of_nonneg (by omega)];omega
 have k3:((b:Int)+1)/2=(k:Int):=by omega
 have k4:(b:Int)≤1023:=by omega
 have HF:=Lib.hid (newton_first x.sz k (by omega))
 have HKL:Hid (2^k<lim):=by
  have:∀ n,n=1023→2^k<lim:=fun n hn=>by rw [lim_eq n hn];exact Nat.pow_lt_pow_right (by decide) (by omega)
  exact this 1023 rfl
 have HKB:Hid (k<1024):=by show k<1024;omega
 have HBE:=Lib.hid hb
 have H0:=Lib.hid h0
 have r1:=row_1
 clear hbl hb hk hk1 h0
 go_enter Tryz.func261,Tryz.ntmps261
 go_wp2_with fail
 refine (bits_c _ _ x.sz _ HLT.out (.of_wi (((Blk.new _ _ _).alloc _).alloc _))).mono ?_;rintro e w' ⟨rfl,rfl⟩;rw [← HBE.out]
 go_wp2_with fail
 refine (up_c _ _ 1 k _ HKB.out (.of_blk (Blk.new' _ _ _ (by simp)))).mono ?_;rintro e w1 ⟨rfl,hb1⟩;rw [Nat.one_mul]
 have Q0:Hid (Blk w1 w.heap.size x.cells 153):=(((Blk.new _ _ _).alloc _).alloc _).keep hb1
 have Q1:Hid (Blk w1 (w.heap.size+1) (cellsI false false 0) 153):=((Blk.new' _ _ _ (by simp)).alloc _).keep hb1
 have HB1:Hid (Below w.heap.size w w1):=below_by
 have HG3:Hid (w.heap.size+1+1+1≤w1.heap.size):=by have:=hb1.size;simp at this;exact this
 clear hb1
 go_upto_block 2 with fail
 obtain ⟨g,hg⟩:∃ g,g=w1.heap.size:=⟨_,rfl⟩
 have QX:Hid (Blk (w1.alloc (.cells (rowW 16 (2^k)) 151)) g (rowW 16 (2^k)) 151):=by rw [hg];exact Blk.new _ _ _
 replace Q0:=Lib.hid (Q0.out.alloc (.cells (rowW 16 (2^k)) 151))
 replace Q1:=Lib.hid (Q1.out.alloc (.cells (rowW 16 (2^k)) 151))
 have hg1:w.heap.size+1<g:=by
  have:=Q1.out.lt
  have h2:=HB1.out.size
  rw [hg]
  have h3:w.heap.size+1+1+1≤w1.heap.size:=HG3.out
  omega
 replace HB1:=Lib.hid (HB1.out.alloc HB1.out.size (.cells (rowW 16 (2^k)) 151))
 simp only [← hg]
 generalize w1.alloc (.cells (rowW 16 (2^k)) 151)=w2 at *
 clear hg HG3
 go_wp2_with fail
 go_loopg [6,7,8,9] (2^k) (fun X _ _ _ _ wx=>Hid (0<X∧X<lim∧x.sz<(X+1)*(X+1))∧Hid (Below w.heap.size w wx)∧Hid (Blk wx w.heap.size x.cells 153)∧Hid (Blk wx (w.heap.size+1) (cellsI false false 0) 153)∧Hid (Blk wx g (rowW 16 X) 151))
 case atStart=>exact ⟨⟨Nat.two_pow_pos _,HKL.out,HF.out⟩,HB1,Q0,Q1,QX⟩
 case round =>
  clear HB1 Q0 Q1 QX
  obtain ⟨HX,HB1,Q0,Q1,QX⟩:=hrel
  obtain ⟨Y,hY⟩:∃ Y,Y=(gk+x.sz/gk)/2:=⟨_,rfl⟩
  obtain ⟨S,hS⟩:∃ S,S=gk+x.sz/gk:=⟨_,rfl⟩
  have hX0:=HX.out.1
  have hS16:S<W16:=by
   have h1:=HX.out.2.1
   have h2:=x.sz_lt
   have h3:=Nat.div_le_self x.sz gk
   have h4:=W16_two
   rw [hS];omega
  have hY16:Y<W16:=by rw [hY,← hS];omega
  have hX16:gk<W16:=Nat.lt_of_lt_of_le HX.out.2.1 lim_le
  have hstep:=newton_step (N:=x.sz) hX0
  have hstop:=fun h=>newton_stop (N:=x.sz) hX0 HX.out.2.2 h
  rw [← hY] at hstep hstop
  have hY0:0<Y:=by
   rcases Nat.eq_zero_or_pos Y with h|h
   ·rw [h] at hstep;have:=H0.out;omega
   ·exact h
  have HS:=Lib.hid hS
  have HY:Hid (Y=S/2):=by show Y=_;rw [hY,hS]
  have HL:Hid (S<W16∧Y<W16∧gk<W16∧gk≠0):=⟨hS16,hY16,hX16,by omega⟩
  have HSTOP:=Lib.hid hstop
  have HSTEP:Hid (0<Y∧x.sz<(Y+1)*(Y+1)):=⟨hY0,hstep⟩
  have r0:wr.row? w.heap.size 2 16=some (rowW 16 x.sz):=by rw [Q0.out.row? 2 16 (by simp)];simp
  have rX:wr.row? g 0 16=some (rowW 16 gk):=QX.out.row?_all 16 (by simp)
  have tX:wr.fits g 16=true:=QX.out.fits 16 (by simp)
  have t1:wr.fits (w.heap.size+1) 18=true:=Q1.out.fits 18 (by simp)
  have z0:=QX.out.lt
  have y0:w.heap.size<wr.heap.size:=by omega
  have y1:w.heap.size+1<wr.heap.size:=by omega
  clear hY hS hX0 hS16 hY16 hX16 hstep hstop hY0
  go_wp2_with fail
  refine (divide_c x.sz gk _ HLT.out HL.out.2.2.1 HL.out.2.2.2).mono ?_;rintro e w3 ⟨rfl,hb3⟩;have z_w3:=hb3.size;(try simp at z_w3);obtain ⟨yw3aa,cw3aa,fw3aa,rw3aa,tw3aa,pw3aa⟩:=bq hb3 (w.heap.size);obtain ⟨yw3ab,cw3ab,fw3ab,rw3ab,tw3ab,pw3ab⟩:=bq hb3 (w.heap.size+1);obtain ⟨y_w3_g,c_w3_g,f_w3_g,r_w3_g,t_w3_g,p_w3_g⟩:=bq hb3 (g)
  have QX3:=Lib.hid (QX.out.keep hb3)
  have ne1:¬ (g=w3.heap.size):=by omega
  have ne2:¬ (g=w3.heap.size+1):=by omega
  go_wp2_with fail
  refine (add_c _ _ _ _ gk (x.sz/gk) _ (.of_blk ((QX3.out.alloc _).alloc _)) (.of_blk ((Blk.new _ _ _).alloc _))).mono ?_;rintro e w4 ⟨rfl,hb4⟩;rw [← HS.out];have z_w4:=hb4.size;(try simp at z_w4);obtain ⟨yw4aa,cw4aa,fw4aa,rw4aa,tw4aa,pw4aa⟩:=bq hb4 (w.heap.size);obtain ⟨yw4ab,cw4ab,fw4ab,rw4ab,tw4ab,pw4ab⟩:=bq hb4 (w.heap.size+1);obtain ⟨y_w4_g,c_w4_g,f_w4_g,r_w4_g,t_w4_g,p_w4_g⟩:=bq hb4 (g)
  have QX4:=Lib.hid (((QX3.out.alloc _).alloc _).keep hb4)
  have ne3:¬ (g=w4.heap.size):=by omega
  have ne4:¬ (w.heap.size+1=w4.heap.size):=by omega
  go_wp2_with fail
  refine (down_c _ _ S 1 _ HL.out.1 (by omega) (.of_blk (Blk.new _ _ _))).mono ?_;rintro e w5 ⟨rfl,hb5⟩;rw [Nat.pow_one,← HY.out];have z_w5:=hb5.size;(try simp at z_w5);obtain ⟨yw5aa,cw5aa,fw5aa,rw5aa,tw5aa,pw5aa⟩:=bq hb5 (w.heap.size);obtain ⟨yw5ab,cw5ab,fw5ab,rw5ab,tw5ab,pw5ab⟩:=bq hb5 (w.heap.size+1);obtain ⟨yw5ba,cw5ba,fw5ba,rw5ba,tw5ba,pw5ba⟩:=bq hb5 (w4.heap.size);obtain ⟨y_w5_g,c_w5_g,f_w5_g,r_w5_g,t_w5_g,p_w5_g⟩:=bq hb5 (g)
  have QX5:=Lib.hid ((QX4.out.alloc _).keep hb5)
  have QS5:=Lib.hid (Blk.keep (Blk.new w4 (rowW 16 S) 151) hb5)
  have tS:w5.fits w4.heap.size 16=true:=QS5.out.fits 16 (by simp)
  have pS:=QS5.out.put? 0 (rowW 16 Y) (by simp) (by simp)
  have QY5:Hid (Blk (w5.putRow w4.heap.size 0 (rowW 16 Y)) w4.heap.size (rowW 16 Y) 151):=by
   have:=QS5.out.putRow_same 0 (rowW 16 Y);rw [splice_all _ _ (by simp)] at this;exact this
  have QX6:Hid (Blk (w5.putRow w4.heap.size 0 (rowW 16 Y)) g (rowW 16 gk) 151):=QX5.out.putRow_other ne3 0 _
  go_wp2_with fail
  refine (cmp_c _ _ _ _ Y gk _ HL.out.2.1 HL.out.2.2.1 (.of_blk QY5.out) (.of_blk QX6.out)).mono ?_;rintro e w6 ⟨rfl,hb6⟩;have z_w6:=hb6.size;(try simp at z_w6);obtain ⟨yw6aa,cw6aa,fw6aa,rw6aa,tw6aa,pw6aa⟩:=bq hb6 (w.heap.size);obtain ⟨yw6ab,cw6ab,fw6ab,rw6ab,tw6ab,pw6ab⟩:=bq hb6 (w.heap.size+1);obtain ⟨yw6ba,cw6ba,fw6ba,rw6ba,tw6ba,pw6ba⟩:=bq hb6 (w4.heap.size);obtain ⟨y_w6_g,c_w6_g,f_w6_g,r_w6_g,t_w6_g,p_w6_g⟩:=bq hb6 (g)
  have rY6:w6.row? w4.heap.size 0 16=some (rowW 16 Y):=(QY5.out.keep hb6).row?_all 16 (by simp)
  have rX6:w6.row? g 0 16=some (rowW 16 gk):=(QX6.out.keep hb6).row?_all 16 (by simp)
  have pX6:=(QX6.out.keep hb6).put? 0 (rowW 16 Y) (by simp) (by simp)
  have HB6:Hid (Below w.heap.size w w6):=by
   have h1:=HB1.out.size
   exact Lib.hid (((((((((HB1.out).trans (hb3.mono h1)).alloc (by omega) _).alloc (by simp;omega) _).trans (hb4.mono (by simp;omega))).alloc (by omega) _).trans (hb5.mono (by simp;omega))) |> fun h=>(Below_putRow h (by omega) 0 (rowW 16 Y)).trans (hb6.mono (by simp;omega))))
  have Q06:Hid (Blk w6 w.heap.size x.cells 153):=by
   have h3:=Q0.out.keep hb3
   have h4:=((h3.alloc (.cells (rowW 16 (x.sz/gk)) 151)).alloc (.cells (rowW 16 (x.sz%gk)) 151)).keep hb4
   have h5:=(h4.alloc (.cells (rowW 16 S) 151)).keep hb5
   exact (h5.putRow_other (by omega) 0 (rowW 16 Y)).keep hb6
  have Q16:Hid (Blk w6 (w.heap.size+1) (cellsI false false 0) 153):=by
   have h3:=Q1.out.keep hb3
   have h4:=((h3.alloc (.cells (rowW 16 (x.sz/gk)) 151)).alloc (.cells (rowW 16 (x.sz%gk)) 151)).keep hb4
   have h5:=(h4.alloc (.cells (rowW 16 S) 151)).keep hb5
   exact (h5.putRow_other (by omega) 0 (rowW 16 Y)).keep hb6
  have QX7:=Lib.hid (QX6.out.keep hb6)
  have z6:=QX7.out.lt
  by_cases hge:gk≤Y
  ·have hc:=cmpN_ge hge
   have HRT:=Lib.hid (HSTOP.out hge)
   have t16:w6.fits (w.heap.size+1) 18=true:=Q16.out.fits 18 (by simp)
   have y16:w.heap.size+1<w6.heap.size:=Q16.out.lt
   have HX16:=HL.out.2.2.1
   have HXH:=Lib.hid HX16
   clear hge HX16 hb3 hb4 hb5 hb6
   go_wp2_with fail
   refine (made_c false gk HXH.out _).mono ?_;rintro e w7 ⟨rfl,hb7⟩
   have p7:=(Q16.out.keep hb7).put? 0 (WI.of (sgn false gk)).cells (by simp) (by simp)
   have r7:=row_put p7 (n:=18) (by simp)
   go_wp2_with fail
   exact bodyPost_row_t 18 (WI.of (sgn false gk)).cells (.int .i64 0) rfl rfl rfl rfl Tryz.underlying153 rfl info_Int r7 ⟨by rw [HRT.out];rfl,Below_putRow (HB6.out.trans (hb7.mono HB6.out.size)) (by omega) _ _⟩
  ·have hc:cmpN Y gk = -1:=by unfold cmpN;rw [if_pos (by omega)]
   have HLT2:Hid (Y<gk):=by show Y<gk;omega
   clear hge hb3 hb4 hb5 hb6
   go_wp2_with fail
   go_roundg Y
   case measure=>exact HLT2.out
   case rel =>
    have h7:=QX7.out.putRow_same 0 (rowW 16 Y)
    rw [splice_all _ _ (by simp)] at h7
    have h1:=HB6.out.size
    exact ⟨⟨HSTEP.out.1,by have:=HX.out.2.1;have:=HLT2.out;omega,HSTEP.out.2⟩,Below_putRow HB6.out (by omega) _ _,Q06.out.putRow_other (by omega) _ _,Q16.out.putRow_other (by omega) _ _,h7⟩
theorem sqrt_I (x:WI) (w:World) :
  Calls Tryz.prog 261 #[.agg x.cells] w fun e w'=>e = .returned (.tuple #[.agg x.sqrt.1.cells,.int .i64 x.sqrt.2])∧Below w.heap.size w w':=by
 by_cases h:x.ov=true∨x.ng=true∨x.sz=0
 ·exact sqrt_easy x h w
 ·exact sqrt_main x (by simpa using fun h1=>h (.inl h1)) (by simpa using fun h1=>h (.inr (.inl h1))) (fun h1=>h (.inr (.inr h1))) w
open Go.RowKit

def narrowV (x:WI) (e:Int):Int × Int:=if e≠0 then (0,e) else if x.i64.2 then (x.i64.1,0) else (0,2)
def aboveV (x y:WI):WI × Int:=((x.neg.div y).1.neg,(x.neg.div y).2)
def wdownV (x:WI):Int × Int:=narrowV x.sqrt.1 x.sqrt.2
def wupV (x:WI):Int × Int:=narrowV (if x.sqrt.2=0∧((x.sqrt.1.mul x.sqrt.1).cmp x).1<0 then x.sqrt.1.add (WI.of 1) else x.sqrt.1) x.sqrt.2
def mulDivV (a b c:Int):Int × Int:=narrowV (((WI.of a).mul (WI.of b)).div (WI.of c)).1 (((WI.of a).mul (WI.of b)).div (WI.of c)).2
def mulDivUpV (a b c:Int):Int × Int:=narrowV (aboveV ((WI.of a).mul (WI.of b)) (WI.of c)).1 (aboveV ((WI.of a).mul (WI.of b)) (WI.of c)).2
def fitV (x y:WI):Int:=if x.ov=true∨y.ov=true then 2 else if y.sign≤0 then 1 else 0
def floorV (x y:WI):Int × Int:=if fitV x y≠0 then (0,fitV x y) else narrowV (x.div y).1 (x.div y).2
def ceilV (x y:WI):Int × Int:=if fitV x y≠0 then (0,fitV x y) else narrowV (aboveV x y).1 (aboveV x y).2
def nearV (x y:WI):Int × Int:=if fitV x y≠0 then (0,fitV x y) else floorV ((x.add x).add y) (y.add y)
theorem narrow_c (x:WI) (e:Int) (w:World) :
  Calls Tryz.prog 151 #[.agg x.cells,.int .i64 e] w fun r w'=>r = .returned (.tuple #[.int .i64 (narrowV x e).1,.int .i64 (narrowV x e).2])∧Below w.heap.size w w':=by
 have E:Hid (narrowV x e=if e≠0 then (0,e) else if x.i64.2 then (x.i64.1,0) else (0,2)):=rfl
 by_cases he:e=0
 ·subst he
  cases hi:x.i64.2 with
  | true =>
   go_enter Tryz.func151,Tryz.ntmps151
   go_wp2_with fail
   refine (int64_I _ _).mono ?_;rintro e w1 ⟨rfl,hb1⟩;rw [hi];have z_w1:=hb1.size;(try simp at z_w1);obtain ⟨yw1aa,cw1aa,fw1aa,rw1aa,tw1aa,pw1aa⟩:=bq hb1 (w.heap.size)
   go_wp2_with fail
   go_ret2
   exact ⟨by rw [E.out,hi];rfl,below_by⟩
  | false =>
   go_enter Tryz.func151,Tryz.ntmps151
   go_wp2_with fail
   refine (int64_I _ _).mono ?_;rintro e w1 ⟨rfl,hb1⟩;rw [hi];have z_w1:=hb1.size;(try simp at z_w1);obtain ⟨yw1aa,cw1aa,fw1aa,rw1aa,tw1aa,pw1aa⟩:=bq hb1 (w.heap.size)
   go_wp2_with fail
   go_ret2
   exact ⟨by rw [E.out,hi];rfl,below_by⟩
 ·have HE:=Lib.hid he
  have h2:(e != 0)=true:=by simp [he]
  go_enter Tryz.func151,Tryz.ntmps151
  go_wp2_with fail
  go_ret2
  exact ⟨by rw [E.out,if_pos HE.out];rfl,below_by⟩
theorem above_c (x y:WI) (w:World) :
  Calls Tryz.prog 152 #[.agg x.cells,.agg y.cells] w fun r w'=>r = .returned (.tuple #[.agg (aboveV x y).1.cells,.int .i64 (aboveV x y).2])∧Below w.heap.size w w':=by
 go_enter Tryz.func152,Tryz.ntmps152
 go_wp2_with fail
 go_cut [6,7] from 8 (fun s6 s7 wc=>∃ g,s6 = .pointer (some ⟨g,0,none⟩)∧s7 = .int .i64 (x.neg.div y).2∧w.heap.size+1+1+1≤g∧g<wc.heap.size∧wc.row? g 0 18=some (x.neg.div y).1.cells∧wc.fits (w.heap.size+1+1) 18=true∧Hid (Below w.heap.size w wc))
 case first =>
  go_region_held3 (fun w'=>w'.row? w.heap.size 0 18=some x.cells∧w'.row? (w.heap.size+1) 0 18=some y.cells) (go_simp)
   (first
    | (go_at_call 156;refine (neg_I _ _).mono ?_;rintro e w1 ⟨rfl,hb1⟩;have z_w1:=hb1.size;(try simp at z_w1);obtain ⟨yw1aa,cw1aa,fw1aa,rw1aa,tw1aa,pw1aa⟩:=bq hb1 (w.heap.size);obtain ⟨yw1ab,cw1ab,fw1ab,rw1ab,tw1ab,pw1ab⟩:=bq hb1 (w.heap.size+1);obtain ⟨yw1ac,cw1ac,fw1ac,rw1ac,tw1ac,pw1ac⟩:=bq hb1 (w.heap.size+1+1);(try (refine with_imp (bk hb1 (w.heap.size+1+1+1)) ?_ ?_;(focus (first|omega|(simp;done)|(simp;omega)));rintro ⟨y_w1_q1,c_w1_q1,f_w1_q1,r_w1_q1,t_w1_q1,p_w1_q1⟩)))
    | (go_at_call 154;refine (div_I _ _ _).mono ?_;rintro e w2 ⟨rfl,hb2⟩;have z_w2:=hb2.size;(try simp at z_w2);obtain ⟨yw2aa,cw2aa,fw2aa,rw2aa,tw2aa,pw2aa⟩:=bq hb2 (w.heap.size);obtain ⟨yw2ab,cw2ab,fw2ab,rw2ab,tw2ab,pw2ab⟩:=bq hb2 (w.heap.size+1);obtain ⟨yw2ac,cw2ac,fw2ac,rw2ac,tw2ac,pw2ac⟩:=bq hb2 (w.heap.size+1+1);(try (refine with_imp (bk hb2 (w.heap.size+1+1+1)) ?_ ?_;(focus (first|omega|(simp;done)|(simp;omega)));rintro ⟨y_w2_q1,c_w2_q1,f_w2_q1,r_w2_q1,t_w2_q1,p_w2_q1⟩));(try (refine with_imp (bk hb2 (w1.heap.size)) ?_ ?_;(focus (first|omega|(simp;done)|(simp;omega)));rintro ⟨y_w2_q2,c_w2_q2,f_w2_q2,r_w2_q2,t_w2_q2,p_w2_q2⟩;have n0_w2_q2:¬ (w.heap.size=w1.heap.size):=(by omega);have n1_w2_q2:¬ (w.heap.size+1=w1.heap.size):=(by omega);have n2_w2_q2:¬ (w.heap.size+1+1=w1.heap.size):=(by omega)))))
  all_goals go_wp2_with fail
  all_goals go_meet
  all_goals exact ⟨_,rfl,rfl,(by first|omega|(simp;done)|(simp;omega)|fail),(by first|omega|(simp;done)|(simp;omega)|fail),(by go_simp),(by go_simp),below_by⟩
 case rest =>
  obtain ⟨g,rfl,rfl,hg1,hg2,hgr,hf,HBL⟩:=hcut
  have y2:w.heap.size+1+1<wc.heap.size:=by omega
  have E:Hid (((x.neg.div y).1.neg,(x.neg.div y).2)=aboveV x y):=rfl
  go_wp2_with fail
  refine (neg_I _ _).mono ?_;rintro e w3 ⟨rfl,hb3⟩
  have t3:w3.fits (w.heap.size+1+1) 18=true:=by rw [Below.fits hb3 _ _ y2];exact hf
  have p3:w3.put? (w.heap.size+1+1) 0 (x.neg.div y).1.neg.cells=some (w3.putRow (w.heap.size+1+1) 0 (x.neg.div y).1.neg.cells):=put?_fits (by simpa using t3) (by simp)
  have r3:=row_put p3 (n:=18) (by simp)
  go_wp2_with fail
  exact bodyPost_row_t 18 (x.neg.div y).1.neg.cells (.int .i64 (x.neg.div y).2) rfl rfl rfl rfl Tryz.underlying153 rfl info_Int r3 ⟨by rw [← E.out],below_by⟩
theorem wdown_c (x:WI) (w:World) :
  Calls Tryz.prog 299 #[.agg x.cells] w fun r w'=>r = .returned (.tuple #[.int .i64 (wdownV x).1,.int .i64 (wdownV x).2])∧Below w.heap.size w w':=by
 have E:Hid (wdownV x=narrowV x.sqrt.1 x.sqrt.2):=rfl
 go_enter Tryz.func299,Tryz.ntmps299
 go_wp2_with fail
 refine (sqrt_I _ _).mono ?_;rintro e w1 ⟨rfl,hb1⟩;have z_w1:=hb1.size;(try simp at z_w1);obtain ⟨yw1aa,cw1aa,fw1aa,rw1aa,tw1aa,pw1aa⟩:=bq hb1 (w.heap.size)
 go_wp2_with fail
 refine (narrow_c _ _ _).mono ?_;rintro e w2 ⟨rfl,hb2⟩;have z_w2:=hb2.size;(try simp at z_w2);obtain ⟨yw2aa,cw2aa,fw2aa,rw2aa,tw2aa,pw2aa⟩:=bq hb2 (w.heap.size)
 go_wp2_with fail
 go_ret2
 exact ⟨by rw [E.out];rfl,below_by⟩
theorem rsqrt_c (n:Int) (h1 : -9223372036854775808≤n) (h2:n≤9223372036854775807) (w:World) :
  Calls Tryz.prog 246 #[.int .i64 n] w fun r w'=>r = .returned (.int .i64 (wdownV (WI.of (max 0 n))).1)∧Below w.heap.size w w':=by
 obtain ⟨m,hm⟩:∃ m,m=max 0 n:=⟨_,rfl⟩
 have HB:Hid (-9223372036854775808≤m∧m≤9223372036854775807):=⟨by omega,by omega⟩
 have e1:max 0 n=m:=hm.symm
 rw [e1]
 clear hm h1 h2
 go_enter Tryz.func246,Tryz.ntmps246
 go_wp2_with fail
 refine (of_c m HB.out.1 HB.out.2 _).mono ?_;rintro e w1 ⟨rfl,hb1⟩
 go_wp2_with fail
 refine (wdown_c _ _).mono ?_;rintro e w2 ⟨rfl,hb2⟩
 have hs:=hb1.size
 go_wp2_with fail
 go_ret
 exact ⟨rfl,below_by⟩
open Go.RowKit

theorem one_1:Hid (-9223372036854775808≤(1:Int)∧(1:Int)≤9223372036854775807):=⟨by decide,by decide⟩
theorem wup_c (x:WI) (w:World) :
  Calls Tryz.prog 197 #[.agg x.cells] w fun r w'=>r = .returned (.tuple #[.int .i64 (wupV x).1,.int .i64 (wupV x).2])∧Below w.heap.size w w':=by
 have E:Hid (wupV x=narrowV (if x.sqrt.2=0∧((x.sqrt.1.mul x.sqrt.1).cmp x).1<0 then x.sqrt.1.add (WI.of 1) else x.sqrt.1) x.sqrt.2):=rfl
 obtain ⟨r,hr⟩:∃ r,r=x.sqrt.1:=⟨_,rfl⟩
 obtain ⟨e0,he0⟩:∃ e0,e0=x.sqrt.2:=⟨_,rfl⟩
 rw [← hr,← he0] at E
 have HR:=Lib.hid hr
 have HE:=Lib.hid he0
 clear hr he0
 by_cases h:e0=0∧((r.mul r).cmp x).1<0
 ·rw [if_pos h] at E
  obtain ⟨h1,h2⟩:=h
  have H1:=Lib.hid h1
  have h3:(e0==0)=true:=by simp [h1]
  have h4:decide (((r.mul r).cmp x).1<0)=true:=decide_eq_true h2
  clear h1
  go_enter Tryz.func197,Tryz.ntmps197
  go_wp2_with fail
  refine (sqrt_I _ _).mono ?_;rintro e w1 ⟨rfl,hb1⟩;rw [← HR.out,← HE.out];have z_w1:=hb1.size;(try simp at z_w1);obtain ⟨yw1aa,cw1aa,fw1aa,rw1aa,tw1aa,pw1aa⟩:=bq hb1 (w.heap.size)
  go_wp2_with fail
  go_region_held3 (fun w'=>w'.row? w.heap.size 0 18=some x.cells∧w'.row? w1.heap.size 0 18=some r.cells) (go_simp)
   (first
    | (go_at_call 153;refine (mul_I _ _ _).mono ?_;rintro e w2 ⟨rfl,hb2⟩;have z_w2:=hb2.size;(try simp at z_w2);obtain ⟨yw2aa,cw2aa,fw2aa,rw2aa,tw2aa,pw2aa⟩:=bq hb2 (w.heap.size);obtain ⟨yw2ba,cw2ba,fw2ba,rw2ba,tw2ba,pw2ba⟩:=bq hb2 (w1.heap.size))
    | (go_at_call 262;refine (cmp_I _ _ _).mono ?_;rintro e w3 ⟨rfl,hb3⟩;have z_w3:=hb3.size;(try simp at z_w3);obtain ⟨yw3aa,cw3aa,fw3aa,rw3aa,tw3aa,pw3aa⟩:=bq hb3 (w.heap.size);obtain ⟨yw3ba,cw3ba,fw3ba,rw3ba,tw3ba,pw3ba⟩:=bq hb3 (w1.heap.size)))
  all_goals have ne1:¬ (w.heap.size=w1.heap.size):=by omega
  all_goals go_wp2_with fail
  all_goals go_region_with
   (first
    | (go_at_call 86;refine (of_c 1 one_1.out.1 one_1.out.2 _).mono ?_;rintro e w4 ⟨rfl,hb4⟩;have z_w4:=hb4.size;(try simp at z_w4);obtain ⟨yw4aa,cw4aa,fw4aa,rw4aa,tw4aa,pw4aa⟩:=bq hb4 (w.heap.size);obtain ⟨yw4ba,cw4ba,fw4ba,rw4ba,tw4ba,pw4ba⟩:=bq hb4 (w1.heap.size))
    | (go_at_call 155;refine (add_I _ _ _).mono ?_;rintro e w5 ⟨rfl,hb5⟩;have z_w5:=hb5.size;(try simp at z_w5);obtain ⟨yw5aa,cw5aa,fw5aa,rw5aa,tw5aa,pw5aa⟩:=bq hb5 (w.heap.size);obtain ⟨yw5ba,cw5ba,fw5ba,rw5ba,tw5ba,pw5ba⟩:=bq hb5 (w1.heap.size)))
  all_goals go_wp2_with fail
  all_goals (refine (narrow_c _ _ _).mono ?_;rintro e w6 ⟨rfl,hb6⟩)
  all_goals go_wp2_with fail
  all_goals go_ret2
  all_goals exact ⟨by rw [E.out];rfl,below_by⟩
 ·rw [if_neg h] at E
  have HN:=Lib.hid h
  by_cases h1:e0=0
  ·have h2:¬ ((r.mul r).cmp x).1<0:=fun h2=>h ⟨h1,h2⟩
   have h4:decide (((r.mul r).cmp x).1<0)=false:=decide_eq_false h2
   have h3:(e0==0)=true:=by simp [h1]
   clear h h1
   go_enter Tryz.func197,Tryz.ntmps197
   go_wp2_with fail
   refine (sqrt_I _ _).mono ?_;rintro e w1 ⟨rfl,hb1⟩;rw [← HR.out,← HE.out];have z_w1:=hb1.size;(try simp at z_w1);obtain ⟨yw1aa,cw1aa,fw1aa,rw1aa,tw1aa,pw1aa⟩:=bq hb1 (w.heap.size)
   go_wp2_with fail
   go_region_held3 (fun w'=>w'.row? w.heap.size 0 18=some x.cells∧w'.row? w1.heap.size 0 18=some r.cells) (go_simp)
    (first
     | (go_at_call 153;refine (mul_I _ _ _).mono ?_;rintro e w2 ⟨rfl,hb2⟩;have z_w2:=hb2.size;(try simp at z_w2);obtain ⟨yw2aa,cw2aa,fw2aa,rw2aa,tw2aa,pw2aa⟩:=bq hb2 (w.heap.size);obtain ⟨yw2ba,cw2ba,fw2ba,rw2ba,tw2ba,pw2ba⟩:=bq hb2 (w1.heap.size))
     | (go_at_call 262;refine (cmp_I _ _ _).mono ?_;rintro e w3 ⟨rfl,hb3⟩;have z_w3:=hb3.size;(try simp at z_w3);obtain ⟨yw3aa,cw3aa,fw3aa,rw3aa,tw3aa,pw3aa⟩:=bq hb3 (w.heap.size);obtain ⟨yw3ba,cw3ba,fw3ba,rw3ba,tw3ba,pw3ba⟩:=bq hb3 (w1.heap.size)))
   all_goals go_wp2_with fail
   all_goals (refine (narrow_c _ _ _).mono ?_;rintro e w6 ⟨rfl,hb6⟩)
   all_goals go_wp2_with fail
   all_goals go_ret2
   all_goals exact ⟨by rw [E.out];rfl,below_by⟩
  ·have h3:(e0==0)=false:=by simp [h1]
   have h3':¬ e0=0:=h1
   clear h h1
   go_enter Tryz.func197,Tryz.ntmps197
   go_wp2_with fail
   refine (sqrt_I _ _).mono ?_;rintro e w1 ⟨rfl,hb1⟩;rw [← HR.out,← HE.out];have z_w1:=hb1.size;(try simp at z_w1);obtain ⟨yw1aa,cw1aa,fw1aa,rw1aa,tw1aa,pw1aa⟩:=bq hb1 (w.heap.size)
   go_wp2_with fail
   go_region_held3 (fun w'=>w'.row? w.heap.size 0 18=some x.cells∧w'.row? w1.heap.size 0 18=some r.cells) (go_simp)
    (first
     | (go_at_call 153;refine (mul_I _ _ _).mono ?_;rintro e w2 ⟨rfl,hb2⟩;have z_w2:=hb2.size;(try simp at z_w2);obtain ⟨yw2aa,cw2aa,fw2aa,rw2aa,tw2aa,pw2aa⟩:=bq hb2 (w.heap.size);obtain ⟨yw2ba,cw2ba,fw2ba,rw2ba,tw2ba,pw2ba⟩:=bq hb2 (w1.heap.size))
     | (go_at_call 262;refine (cmp_I _ _ _).mono ?_;rintro e w3 ⟨rfl,hb3⟩;have z_w3:=hb3.size;(try simp at z_w3);obtain ⟨yw3aa,cw3aa,fw3aa,rw3aa,tw3aa,pw3aa⟩:=bq hb3 (w.heap.size);obtain ⟨yw3ba,cw3ba,fw3ba,rw3ba,tw3ba,pw3ba⟩:=bq hb3 (w1.heap.size)))
   all_goals go_wp2_with fail
   all_goals (refine (narrow_c _ _ _).mono ?_;rintro e w6 ⟨rfl,hb6⟩)
   all_goals go_wp2_with fail
   all_goals go_ret2
   all_goals exact ⟨by rw [E.out];rfl,below_by⟩
theorem rup_c (n:Int) (h1 : -9223372036854775808≤n) (h2:n≤9223372036854775807) (w:World) :
  Calls Tryz.prog 150 #[.int .i64 n] w fun r w'=>r = .returned (.int .i64 (wupV (WI.of (max 0 n))).1)∧Below w.heap.size w w':=by
 obtain ⟨m,hm⟩:∃ m,m=max 0 n:=⟨_,rfl⟩
 have HB:Hid (-9223372036854775808≤m∧m≤9223372036854775807):=⟨by omega,by omega⟩
 have e1:max 0 n=m:=hm.symm
 rw [e1]
 clear hm h1 h2
 go_enter Tryz.func150,Tryz.ntmps150
 go_wp2_with fail
 refine (of_c m HB.out.1 HB.out.2 _).mono ?_;rintro e w1 ⟨rfl,hb1⟩
 go_wp2_with fail
 refine (wup_c _ _).mono ?_;rintro e w2 ⟨rfl,hb2⟩
 have hs:=hb1.size
 go_wp2_with fail
 go_ret
 exact ⟨rfl,below_by⟩
theorem mulDiv_c (a b c:Int) (ha : -9223372036854775808≤a∧a≤9223372036854775807) (hb : -9223372036854775808≤b∧b≤9223372036854775807) (hc : -9223372036854775808≤c∧c≤9223372036854775807) (w:World) :
  Calls Tryz.prog 83 #[.int .i64 a,.int .i64 b,.int .i64 c] w fun r w'=>r = .returned (.tuple #[.int .i64 (mulDivV a b c).1,.int .i64 (mulDivV a b c).2])∧Below w.heap.size w w':=by
 have E:Hid (mulDivV a b c=narrowV (((WI.of a).mul (WI.of b)).div (WI.of c)).1 (((WI.of a).mul (WI.of b)).div (WI.of c)).2):=rfl
 have HA:=Lib.hid ha
 have HB:=Lib.hid hb
 have HC:=Lib.hid hc
 clear ha hb hc
 go_enter Tryz.func83,Tryz.ntmps83
 go_wp2_with fail
 refine (of_c a HA.out.1 HA.out.2 _).mono ?_;rintro e w1 ⟨rfl,hb1⟩
 have s1:=hb1.size
 go_wp2_with fail
 refine (of_c b HB.out.1 HB.out.2 _).mono ?_;rintro e w2 ⟨rfl,hb2⟩
 have s2:=hb2.size
 go_wp2_with fail
 refine (mul_I _ _ _).mono ?_;rintro e w3 ⟨rfl,hb3⟩
 have s3:=hb3.size
 go_wp2_with fail
 refine (of_c c HC.out.1 HC.out.2 _).mono ?_;rintro e w4 ⟨rfl,hb4⟩
 have s4:=hb4.size
 go_wp2_with fail
 refine (div_I _ _ _).mono ?_;rintro e w5 ⟨rfl,hb5⟩
 have s5:=hb5.size
 go_wp2_with fail
 refine (narrow_c _ _ _).mono ?_;rintro e w6 ⟨rfl,hb6⟩
 go_wp2_with fail
 go_ret2
 exact ⟨by rw [E.out];rfl,below_by⟩
theorem mulDivUp_c (a b c:Int) (ha : -9223372036854775808≤a∧a≤9223372036854775807) (hb : -9223372036854775808≤b∧b≤9223372036854775807) (hc : -9223372036854775808≤c∧c≤9223372036854775807) (w:World) :
  Calls Tryz.prog 82 #[.int .i64 a,.int .i64 b,.int .i64 c] w fun r w'=>r = .returned (.tuple #[.int .i64 (mulDivUpV a b c).1,.int .i64 (mulDivUpV a b c).2])∧Below w.heap.size w w':=by
 have E:Hid (mulDivUpV a b c=narrowV (aboveV ((WI.of a).mul (WI.of b)) (WI.of c)).1 (aboveV ((WI.of a).mul (WI.of b)) (WI.of c)).2):=rfl
 have HA:=Lib.hid ha
 have HB:=Lib.hid hb
 have HC:=Lib.hid hc
 clear ha hb hc
 go_enter Tryz.func82,Tryz.ntmps82
 go_wp2_with fail
 refine (of_c a HA.out.1 HA.out.2 _).mono ?_;rintro e w1 ⟨rfl,hb1⟩
 have s1:=hb1.size
 go_wp2_with fail
 refine (of_c b HB.out.1 HB.out.2 _).mono ?_;rintro e w2 ⟨rfl,hb2⟩
 have s2:=hb2.size
 go_wp2_with fail
 refine (mul_I _ _ _).mono ?_;rintro e w3 ⟨rfl,hb3⟩
 have s3:=hb3.size
 go_wp2_with fail
 refine (of_c c HC.out.1 HC.out.2 _).mono ?_;rintro e w4 ⟨rfl,hb4⟩
 have s4:=hb4.size
 go_wp2_with fail
 refine (above_c _ _ _).mono ?_;rintro e w5 ⟨rfl,hb5⟩
 have s5:=hb5.size
 go_wp2_with fail
 refine (narrow_c _ _ _).mono ?_;rintro e w6 ⟨rfl,hb6⟩
 go_wp2_with fail
 go_ret2
 exact ⟨by rw [E.out];rfl,below_by⟩
open Go.RowKit

theorem fit_c (x y:WI) (w:World) :
  Calls Tryz.prog 320 #[.agg x.cells,.agg y.cells] w fun r w'=>r = .returned (.int .i64 (fitV x y))∧Below w.heap.size w w':=by
 have E:Hid (fitV x y=if x.ov=true∨y.ov=true then 2 else if y.sign≤0 then 1 else 0):=rfl
 cases hx:x.ov with
 | true =>
  go_enter Tryz.func320,Tryz.ntmps320
  go_wp2_with fail
  refine (over_I _ _).mono ?_;rintro e w1 ⟨rfl,hb1⟩;rw [hx];have z_w1:=hb1.size;(try simp at z_w1);obtain ⟨yw1aa,cw1aa,fw1aa,rw1aa,tw1aa,pw1aa⟩:=bq hb1 (w.heap.size);obtain ⟨yw1ab,cw1ab,fw1ab,rw1ab,tw1ab,pw1ab⟩:=bq hb1 (w.heap.size+1)
  go_wp2_with fail
  go_ret
  exact ⟨by rw [E.out,if_pos (.inl hx)];rfl,below_by⟩
 | false =>
  cases hy:y.ov with
  | true =>
   go_enter Tryz.func320,Tryz.ntmps320
   go_wp2_with fail
   refine (over_I _ _).mono ?_;rintro e w1 ⟨rfl,hb1⟩;rw [hx];have z_w1:=hb1.size;(try simp at z_w1);obtain ⟨yw1aa,cw1aa,fw1aa,rw1aa,tw1aa,pw1aa⟩:=bq hb1 (w.heap.size);obtain ⟨yw1ab,cw1ab,fw1ab,rw1ab,tw1ab,pw1ab⟩:=bq hb1 (w.heap.size+1)
   go_wp2_with fail
   refine (over_I _ _).mono ?_;rintro e w2 ⟨rfl,hb2⟩;rw [hy];have z_w2:=hb2.size;(try simp at z_w2);obtain ⟨yw2aa,cw2aa,fw2aa,rw2aa,tw2aa,pw2aa⟩:=bq hb2 (w.heap.size);obtain ⟨yw2ab,cw2ab,fw2ab,rw2ab,tw2ab,pw2ab⟩:=bq hb2 (w.heap.size+1)
   go_wp2_with fail
   go_ret
   exact ⟨by rw [E.out,if_pos (.inr hy)];rfl,below_by⟩
  | false =>
   have hn:¬ (x.ov=true∨y.ov=true):=by rw [hx,hy];simp
   rw [if_neg hn] at E
   clear hn
   by_cases hs:y.sign≤0
   ·rw [if_pos hs] at E
    go_enter Tryz.func320,Tryz.ntmps320
    go_wp2_with fail
    refine (over_I _ _).mono ?_;rintro e w1 ⟨rfl,hb1⟩;rw [hx];have z_w1:=hb1.size;(try simp at z_w1);obtain ⟨yw1aa,cw1aa,fw1aa,rw1aa,tw1aa,pw1aa⟩:=bq hb1 (w.heap.size);obtain ⟨yw1ab,cw1ab,fw1ab,rw1ab,tw1ab,pw1ab⟩:=bq hb1 (w.heap.size+1)
    go_wp2_with fail
    refine (over_I _ _).mono ?_;rintro e w2 ⟨rfl,hb2⟩;rw [hy];have z_w2:=hb2.size;(try simp at z_w2);obtain ⟨yw2aa,cw2aa,fw2aa,rw2aa,tw2aa,pw2aa⟩:=bq hb2 (w.heap.size);obtain ⟨yw2ab,cw2ab,fw2ab,rw2ab,tw2ab,pw2ab⟩:=bq hb2 (w.heap.size+1)
    go_wp2_with fail
    refine (sign_I _ _).mono ?_;rintro e w3 ⟨rfl,hb3⟩;have z_w3:=hb3.size;(try simp at z_w3);obtain ⟨yw3aa,cw3aa,fw3aa,rw3aa,tw3aa,pw3aa⟩:=bq hb3 (w.heap.size);obtain ⟨yw3ab,cw3ab,fw3ab,rw3ab,tw3ab,pw3ab⟩:=bq hb3 (w.heap.size+1)
    go_wp2_with fail
    go_ret
    exact ⟨by rw [E.out];rfl,below_by⟩
   ·rw [if_neg hs] at E
    have hs':0<y.sign:=by omega
    clear hs
    go_enter Tryz.func320,Tryz.ntmps320
    go_wp2_with fail
    refine (over_I _ _).mono ?_;rintro e w1 ⟨rfl,hb1⟩;rw [hx];have z_w1:=hb1.size;(try simp at z_w1);obtain ⟨yw1aa,cw1aa,fw1aa,rw1aa,tw1aa,pw1aa⟩:=bq hb1 (w.heap.size);obtain ⟨yw1ab,cw1ab,fw1ab,rw1ab,tw1ab,pw1ab⟩:=bq hb1 (w.heap.size+1)
    go_wp2_with fail
    refine (over_I _ _).mono ?_;rintro e w2 ⟨rfl,hb2⟩;rw [hy];have z_w2:=hb2.size;(try simp at z_w2);obtain ⟨yw2aa,cw2aa,fw2aa,rw2aa,tw2aa,pw2aa⟩:=bq hb2 (w.heap.size);obtain ⟨yw2ab,cw2ab,fw2ab,rw2ab,tw2ab,pw2ab⟩:=bq hb2 (w.heap.size+1)
    go_wp2_with fail
    refine (sign_I _ _).mono ?_;rintro e w3 ⟨rfl,hb3⟩;have z_w3:=hb3.size;(try simp at z_w3);obtain ⟨yw3aa,cw3aa,fw3aa,rw3aa,tw3aa,pw3aa⟩:=bq hb3 (w.heap.size);obtain ⟨yw3ab,cw3ab,fw3ab,rw3ab,tw3ab,pw3ab⟩:=bq hb3 (w.heap.size+1)
    go_wp2_with fail
    go_ret
    exact ⟨by rw [E.out];rfl,below_by⟩
theorem floor_c (x y:WI) (w:World) :
  Calls Tryz.prog 278 #[.agg x.cells,.agg y.cells] w fun r w'=>r = .returned (.tuple #[.int .i64 (floorV x y).1,.int .i64 (floorV x y).2])∧Below w.heap.size w w':=by
 have E:Hid (floorV x y=if fitV x y≠0 then (0,fitV x y) else narrowV (x.div y).1 (x.div y).2):=rfl
 by_cases hf:fitV x y=0
 ·rw [if_neg (by simpa using hf)] at E
  go_enter Tryz.func278,Tryz.ntmps278
  go_wp2_with fail
  refine (fit_c _ _ _).mono ?_;rintro e w1 ⟨rfl,hb1⟩;rw [hf];have z_w1:=hb1.size;(try simp at z_w1);obtain ⟨yw1aa,cw1aa,fw1aa,rw1aa,tw1aa,pw1aa⟩:=bq hb1 (w.heap.size);obtain ⟨yw1ab,cw1ab,fw1ab,rw1ab,tw1ab,pw1ab⟩:=bq hb1 (w.heap.size+1)
  go_wp2_with fail
  refine (div_I _ _ _).mono ?_;rintro e w2 ⟨rfl,hb2⟩;have z_w2:=hb2.size;(try simp at z_w2);obtain ⟨yw2aa,cw2aa,fw2aa,rw2aa,tw2aa,pw2aa⟩:=bq hb2 (w.heap.size);obtain ⟨yw2ab,cw2ab,fw2ab,rw2ab,tw2ab,pw2ab⟩:=bq hb2 (w.heap.size+1)
  go_wp2_with fail
  refine (narrow_c _ _ _).mono ?_;rintro e w3 ⟨rfl,hb3⟩
  go_wp2_with fail
  go_ret2
  exact ⟨by rw [E.out];rfl,below_by⟩
 ·rw [if_pos hf] at E
  obtain ⟨f,hff⟩:∃ f,f=fitV x y:=⟨_,rfl⟩
  rw [← hff] at E hf
  have HF:=Lib.hid hff
  have h2:(f != 0)=true:=by simp [hf]
  clear hff
  go_enter Tryz.func278,Tryz.ntmps278
  go_wp2_with fail
  refine (fit_c _ _ _).mono ?_;rintro e w1 ⟨rfl,hb1⟩;rw [← HF.out];have z_w1:=hb1.size;(try simp at z_w1);obtain ⟨yw1aa,cw1aa,fw1aa,rw1aa,tw1aa,pw1aa⟩:=bq hb1 (w.heap.size);obtain ⟨yw1ab,cw1ab,fw1ab,rw1ab,tw1ab,pw1ab⟩:=bq hb1 (w.heap.size+1)
  go_wp2_with fail
  go_ret2
  exact ⟨by rw [E.out];rfl,below_by⟩
theorem ceil_c (x y:WI) (w:World) :
  Calls Tryz.prog 277 #[.agg x.cells,.agg y.cells] w fun r w'=>r = .returned (.tuple #[.int .i64 (ceilV x y).1,.int .i64 (ceilV x y).2])∧Below w.heap.size w w':=by
 have E:Hid (ceilV x y=if fitV x y≠0 then (0,fitV x y) else narrowV (aboveV x y).1 (aboveV x y).2):=rfl
 by_cases hf:fitV x y=0
 ·rw [if_neg (by simpa using hf)] at E
  go_enter Tryz.func277,Tryz.ntmps277
  go_wp2_with fail
  refine (fit_c _ _ _).mono ?_;rintro e w1 ⟨rfl,hb1⟩;rw [hf];have z_w1:=hb1.size;(try simp at z_w1);obtain ⟨yw1aa,cw1aa,fw1aa,rw1aa,tw1aa,pw1aa⟩:=bq hb1 (w.heap.size);obtain ⟨yw1ab,cw1ab,fw1ab,rw1ab,tw1ab,pw1ab⟩:=bq hb1 (w.heap.size+1)
  go_wp2_with fail
  refine (above_c _ _ _).mono ?_;rintro e w2 ⟨rfl,hb2⟩;have z_w2:=hb2.size;(try simp at z_w2);obtain ⟨yw2aa,cw2aa,fw2aa,rw2aa,tw2aa,pw2aa⟩:=bq hb2 (w.heap.size);obtain ⟨yw2ab,cw2ab,fw2ab,rw2ab,tw2ab,pw2ab⟩:=bq hb2 (w.heap.size+1)
  go_wp2_with fail
  refine (narrow_c _ _ _).mono ?_;rintro e w3 ⟨rfl,hb3⟩
  go_wp2_with fail
  go_ret2
  exact ⟨by rw [E.out];rfl,below_by⟩
 ·rw [if_pos hf] at E
  obtain ⟨f,hff⟩:∃ f,f=fitV x y:=⟨_,rfl⟩
  rw [← hff] at E hf
  have HF:=Lib.hid hff
  have h2:(f != 0)=true:=by simp [hf]
  clear hff
  go_enter Tryz.func277,Tryz.ntmps277
  go_wp2_with fail
  refine (fit_c _ _ _).mono ?_;rintro e w1 ⟨rfl,hb1⟩;rw [← HF.out];have z_w1:=hb1.size;(try simp at z_w1);obtain ⟨yw1aa,cw1aa,fw1aa,rw1aa,tw1aa,pw1aa⟩:=bq hb1 (w.heap.size);obtain ⟨yw1ab,cw1ab,fw1ab,rw1ab,tw1ab,pw1ab⟩:=bq hb1 (w.heap.size+1)
  go_wp2_with fail
  go_ret2
  exact ⟨by rw [E.out];rfl,below_by⟩
theorem near_c (x y:WI) (w:World) :
  Calls Tryz.prog 276 #[.agg x.cells,.agg y.cells] w fun r w'=>r = .returned (.tuple #[.int .i64 (nearV x y).1,.int .i64 (nearV x y).2])∧Below w.heap.size w w':=by
 have E:Hid (nearV x y=if fitV x y≠0 then (0,fitV x y) else floorV ((x.add x).add y) (y.add y)):=rfl
 by_cases hf:fitV x y=0
 ·rw [if_neg (by simpa using hf)] at E
  go_enter Tryz.func276,Tryz.ntmps276
  go_wp2_with fail
  refine (fit_c _ _ _).mono ?_;rintro e w1 ⟨rfl,hb1⟩;rw [hf];have z_w1:=hb1.size;(try simp at z_w1);obtain ⟨yw1aa,cw1aa,fw1aa,rw1aa,tw1aa,pw1aa⟩:=bq hb1 (w.heap.size);obtain ⟨yw1ab,cw1ab,fw1ab,rw1ab,tw1ab,pw1ab⟩:=bq hb1 (w.heap.size+1)
  go_wp2_with fail
  go_region_held3 (fun w'=>w'.row? w.heap.size 0 18=some x.cells∧w'.row? (w.heap.size+1) 0 18=some y.cells) (go_simp)
   (first
    | (go_at_call 155;refine (add_I _ _ _).mono ?_;rintro e w2 ⟨rfl,hb2⟩;have z_w2:=hb2.size;(try simp at z_w2);obtain ⟨yw2aa,cw2aa,fw2aa,rw2aa,tw2aa,pw2aa⟩:=bq hb2 (w.heap.size);obtain ⟨yw2ab,cw2ab,fw2ab,rw2ab,tw2ab,pw2ab⟩:=bq hb2 (w.heap.size+1))
    | (go_at_call 278;refine (floor_c _ _ _).mono ?_;rintro e w3 ⟨rfl,hb3⟩;have z_w3:=hb3.size;(try simp at z_w3);obtain ⟨yw3aa,cw3aa,fw3aa,rw3aa,tw3aa,pw3aa⟩:=bq hb3 (w.heap.size);obtain ⟨yw3ab,cw3ab,fw3ab,rw3ab,tw3ab,pw3ab⟩:=bq hb3 (w.heap.size+1)))
  all_goals go_wp2_with fail
  all_goals go_ret2
  all_goals exact ⟨by rw [E.out];rfl,below_by⟩
 ·rw [if_pos hf] at E
  obtain ⟨f,hff⟩:∃ f,f=fitV x y:=⟨_,rfl⟩
  rw [← hff] at E hf
  have HF:=Lib.hid hff
  have h2:(f != 0)=true:=by simp [hf]
  clear hff
  go_enter Tryz.func276,Tryz.ntmps276
  go_wp2_with fail
  refine (fit_c _ _ _).mono ?_;rintro e w1 ⟨rfl,hb1⟩;rw [← HF.out];have z_w1:=hb1.size;(try simp at z_w1);obtain ⟨yw1aa,cw1aa,fw1aa,rw1aa,tw1aa,pw1aa⟩:=bq hb1 (w.heap.size);obtain ⟨yw1ab,cw1ab,fw1ab,rw1ab,tw1ab,pw1ab⟩:=bq hb1 (w.heap.size+1)
  go_wp2_with fail
  go_ret2
  exact ⟨by rw [E.out];rfl,below_by⟩

def up (n:Nat):Nat:=if rt n*rt n<n then rt n+1 else rt n
theorem up_spec (n:Nat):n≤up n*up n∧(up n=0∨(up n-1)*(up n-1)<n):=by
 have h:=rt_spec n
 unfold up
 split
 ·rename_i h1
  exact ⟨by omega,.inr (by rw [Nat.add_sub_cancel];exact h1)⟩
 ·rename_i h1
  refine ⟨by omega,?_⟩
  rcases Nat.eq_zero_or_pos (rt n) with h2|h2
  ·exact .inl h2
  ·right
   have:(rt n-1)*(rt n-1)<rt n*rt n:=Nat.mul_lt_mul'' (by omega) (by omega)
   omega
theorem rt_le (n:Nat):rt n≤n:=by
 have h:=rt_spec n
 rcases Nat.eq_zero_or_pos (rt n) with h1|h1
 ·omega
 ·have:rt n*1≤rt n*rt n:=Nat.mul_le_mul_left _ h1
  omega
theorem rt_lt (n k:Nat) (h:n<k*k):rt n<k:=by
 have h1:=rt_spec n
 rcases Nat.lt_or_ge (rt n) k with h2|h2
 ·exact h2
 ·have:=sq_mono h2;omega
theorem up_le (n k:Nat) (h:n≤k*k):up n≤k:=by
 have ⟨a,b⟩:=up_spec n
 rcases Nat.lt_or_ge k (up n) with h2|h2
 ·rcases b with b|b
  ·omega
  ·have:=sq_mono (show k≤up n-1 by omega);omega
 ·exact h2
/-! ### Numbers that fit -/
def fitI (q:Int):Int × Int:=if -9223372036854775808≤q∧q≤9223372036854775807 then (q,0) else (0,2)
theorem WI.of_i64 (q:Int) (h:q.natAbs<lim):(WI.of q).i64=if -9223372036854775808≤q∧q≤9223372036854775807 then (q,true) else (0,false):=by
 unfold WI.i64;rw [WI.of_v h]
theorem narrow_of (q:Int) (h:q.natAbs<lim):narrowV (WI.of q) 0=fitI q:=by
 unfold narrowV fitI
 rw [WI.of_i64 q h]
 simp only [ne_eq,not_true_eq_false,if_false]
 split <;> simp
theorem narrow_err (x:WI) (e:Int) (h:e≠0):narrowV x e=(0,e):=by unfold narrowV;rw [if_pos h]
theorem lim_small {n:Nat} (h:n<18446744073709551616):n<lim:=small_lim h
theorem WI.of_sqrt (n:Nat) (h:n<lim):(WI.of (n:Int)).sqrt=(WI.of (rt n:Nat),0):=by
 unfold WI.sqrt;rw [WI.of_v (by simpa using h)]
 simp only
 rw [if_neg (by omega)]
 rfl
theorem wdown_nat (n:Nat) (h:n<lim):wdownV (WI.of (n:Int))=fitI (rt n:Nat):=by
 unfold wdownV;rw [WI.of_sqrt n h]
 exact narrow_of _ (by have:=rt_le n;simp;omega)
theorem WI.of_cmp (a b:Int) (ha:a.natAbs<lim) (hb:b.natAbs<lim):(WI.of a).cmp (WI.of b)=(if a<b then -1 else if b<a then 1 else 0,true):=by
 unfold WI.cmp;rw [WI.of_v ha,WI.of_v hb]
theorem wup_nat (n:Nat) (h:n<lim) (h2:rt n<9223372036854775807):wupV (WI.of (n:Int))=(((up n:Nat):Int),0):=by
 unfold wupV;rw [WI.of_sqrt n h]
 have hl:((rt n:Nat):Int).natAbs<lim:=by simpa using Nat.lt_of_le_of_lt (rt_le n) h
 have hs:(((rt n:Nat):Int)*((rt n:Nat):Int)).natAbs<lim:=by
  rw [← Int.natCast_mul,Int.natAbs_natCast];exact Nat.lt_of_le_of_lt (rt_spec n).1 h
 rw [WI.of_mul hl hl,WI.of_cmp _ _ hs (by simpa using h)]
 have e:((rt n:Nat):Int)*((rt n:Nat):Int)=((rt n*rt n:Nat):Int):=(Int.natCast_mul _ _).symm
 have hle:=(rt_spec n).1
 simp only [true_and]
 unfold up
 by_cases hc:rt n*rt n<n
 ·rw [if_pos hc,if_pos (by rw [if_pos (by omega)];decide)]
  rw [WI.of_add hl (by have:=lim_small (n:=1) (by decide);simpa using this)]
  have:((rt n:Nat):Int)+1=((rt n+1:Nat):Int):=by omega
  rw [this,narrow_of _ (by rw [Int.natAbs_natCast];exact lim_small (by omega))]
  unfold fitI;rw [if_pos (by omega)]
 ·rw [if_neg hc,if_neg (by rw [if_neg (by omega),if_neg (by omega)];decide)]
  rw [narrow_of _ hl]
  unfold fitI;rw [if_pos (by omega)]
/-! ### Quotients -/
theorem sgn_of (x:Int):x=sgn (decide (x<0)) x.natAbs:=by unfold sgn;by_cases h:x<0 <;> simp [h] <;> omega
theorem fdiv_abs (x c:Int) (hc:c≠0):(x.fdiv c).natAbs≤x.natAbs+1:=by
 rw [sgn_of x,sgn_of c,sgn_fdiv _ _ _ _ (by omega),sgn_abs,← sgn_of x]
 have:=Nat.div_le_self x.natAbs c.natAbs
 split <;> omega
theorem WI.of_div (a b:Int) (ha:a.natAbs<lim) (hb:b.natAbs<lim) (h0:b≠0):(WI.of a).div (WI.of b)=(WI.of (a.fdiv b),0):=by
 unfold WI.div;rw [WI.of_v ha,WI.of_v hb]
 simp only [h0,if_false]
theorem WI.of_div0 (a:Int) (ha:a.natAbs<lim):(WI.of a).div (WI.of 0)=(WI.of 0,1):=by
 unfold WI.div;rw [WI.of_v ha,WI.of_v (by simpa using lim_pos)]
 simp
theorem sm_lim1 {a:Int} (h:Sm 1000 a):a.natAbs+1<lim:=by
 have h1:=h.lim (k:=1000) (by decide)
 have h2:Sm 1001 (a+1)∧Sm 1001 (a-1):=⟨h.add (Sm.mono (j:=0) (by unfold Sm;decide) (by decide)),h.sub (Sm.mono (j:=0) (by unfold Sm;decide) (by decide))⟩
 have h3:=h2.1.lim (by decide)
 have h4:=h2.2.lim (by decide)
 omega
theorem floor_of (a b:Int) (ha:Sm 1000 a) (hb:Sm 1000 b) (h0:b≠0):narrowV ((WI.of a).div (WI.of b)).1 ((WI.of a).div (WI.of b)).2=fitI (a.fdiv b):=by
 rw [WI.of_div a b (ha.lim (by decide)) (hb.lim (by decide)) h0]
 have:=fdiv_abs a b h0
 have:=sm_lim1 ha
 exact narrow_of _ (by omega)
theorem ceil_of (a b:Int) (ha:Sm 1000 a) (hb:Sm 1000 b) (h0:b≠0):narrowV (aboveV (WI.of a) (WI.of b)).1 (aboveV (WI.of a) (WI.of b)).2=fitI (-((-a).fdiv b)):=by
 unfold aboveV
 rw [WI.of_neg (ha.lim (by decide)),WI.of_div (-a) b (ha.neg.lim (by decide)) (hb.lim (by decide)) h0]
 have h1:=fdiv_abs (-a) b h0
 have h2:=sm_lim1 ha.neg
 rw [WI.of_neg (by omega)]
 exact narrow_of _ (by omega)
theorem mulDiv_eq (a b c:Int) (ha:Sm 63 a) (hb:Sm 63 b) (hc:Sm 63 c):mulDivV a b c=if c=0 then (0,1) else fitI ((a*b).fdiv c):=by
 unfold mulDivV
 have hab:=ha.mul hb
 rw [WI.of_mul (ha.lim (by decide)) (hb.lim (by decide))]
 by_cases h:c=0
 ·subst h
  rw [if_pos rfl,WI.of_div0 _ (hab.lim (by decide))]
  exact narrow_err _ _ (by decide)
 ·rw [if_neg h];exact floor_of _ _ (hab.mono (by decide)) (hc.mono (by decide)) h
theorem mulDivUp_eq (a b c:Int) (ha:Sm 63 a) (hb:Sm 63 b) (hc:Sm 63 c):mulDivUpV a b c=if c=0 then (0,1) else fitI (-((-(a*b)).fdiv c)):=by
 unfold mulDivUpV
 have hab:=ha.mul hb
 rw [WI.of_mul (ha.lim (by decide)) (hb.lim (by decide))]
 by_cases h:c=0
 ·subst h
  rw [if_pos rfl]
  unfold aboveV
  rw [WI.of_neg (hab.lim (by decide)),WI.of_div0 _ (hab.neg.lim (by decide))]
  exact narrow_err _ _ (by decide)
 ·rw [if_neg h];exact ceil_of _ _ (hab.mono (by decide)) (hc.mono (by decide)) h
theorem fit_of (a b:Int) (ha:a.natAbs<lim) (hb:b.natAbs<lim):fitV (WI.of a) (WI.of b)=if b≤0 then 1 else 0:=by
 have h1:(WI.of a).ov=false:=by unfold WI.ov;rw [WI.of_v ha];rfl
 have h2:(WI.of b).ov=false:=by unfold WI.ov;rw [WI.of_v hb];rfl
 unfold fitV
 rw [h1,h2,WI.of_sign hb]
 have e:b.sign≤0↔b≤0:=by
  constructor
  ·intro h
   by_cases h3:0<b
   ·rw [Int.sign_eq_one_of_pos h3] at h;omega
   ·omega
  ·intro h;rcases Int.lt_or_eq_of_le h with h3|h3
   ·rw [Int.sign_eq_neg_one_of_neg h3];decide
   ·rw [h3];decide
 simp [e]
theorem floorV_of (a b:Int) (ha:Sm 1000 a) (hb:Sm 1000 b) (h0:0<b):floorV (WI.of a) (WI.of b)=fitI (a.fdiv b):=by
 have e:fitV (WI.of a) (WI.of b)=0:=by rw [fit_of a b (ha.lim (by decide)) (hb.lim (by decide)),if_neg (by omega)]
 unfold floorV
 rw [e,if_neg (by decide)]
 exact floor_of a b ha hb (by omega)
theorem ceilV_of (a b:Int) (ha:Sm 1000 a) (hb:Sm 1000 b) (h0:0<b):ceilV (WI.of a) (WI.of b)=fitI (-((-a).fdiv b)):=by
 have e:fitV (WI.of a) (WI.of b)=0:=by rw [fit_of a b (ha.lim (by decide)) (hb.lim (by decide)),if_neg (by omega)]
 unfold ceilV
 rw [e,if_neg (by decide)]
 exact ceil_of a b ha hb (by omega)
theorem nearV_of (a b:Int) (ha:Sm 990 a) (hb:Sm 990 b) (h0:0<b):nearV (WI.of a) (WI.of b)=fitI ((2*a+b).fdiv (2*b)):=by
 have e:fitV (WI.of a) (WI.of b)=0:=by rw [fit_of a b (ha.lim (by decide)) (hb.lim (by decide)),if_neg (by omega)]
 unfold nearV
 rw [e,if_neg (by decide)]
 rw [WI.of_add (ha.lim (by decide)) (ha.lim (by decide)),WI.of_add ((ha.add ha).lim (by decide)) (hb.lim (by decide)),WI.of_add (hb.lim (by decide)) (hb.lim (by decide))]
 rw [show a+a+b=2*a+b by omega,show b+b=2*b by omega]
 refine floorV_of _ _ ?_ ?_ (by omega)
 ·rw [show 2*a+b=a+a+b by omega];exact ((ha.add ha).add (hb.mono (by decide))).mono (by decide)
 ·rw [show 2*b=b+b by omega];exact (hb.add hb).mono (by decide)
open Go.RowKit

theorem rsqrt_v (m r:Nat) (hm:m≤9223372036854775807) (hr:r=rt m) (w:World) :
  Calls Tryz.prog 246 #[.int .i64 (m:Int)] w fun e w'=>e = .returned (.int .i64 (r:Int))∧Below w.heap.size w w':=by
 have h:=rsqrt_c (m:Int) (by omega) (by omega) w
 rw [show max 0 (m:Int)=(m:Int) by omega,wdown_nat m (lim_small (by omega))] at h
 have:=rt_le m
 have e:(fitI (rt m:Nat)).1=(r:Int):=by unfold fitI;rw [if_pos (by omega),hr]
 rw [e] at h;exact h
theorem rup_v (m r:Nat) (hm:m≤9223372036854775807) (hr:r=up m) (w:World) :
  Calls Tryz.prog 150 #[.int .i64 (m:Int)] w fun e w'=>e = .returned (.int .i64 (r:Int))∧Below w.heap.size w w':=by
 have h:=rup_c (m:Int) (by omega) (by omega) w
 have h3:rt m<9223372036854775807:=by
  have:=rt_lt m 3037000500 (by omega)
  omega
 rw [show max 0 (m:Int)=(m:Int) by omega,wup_nat m (lim_small (by omega)) h3] at h
 rw [hr];exact h
theorem and_low (n:Int) (k m:Nat) (hk:k≤63) (hm:m=2^k-1):bits .and .i64 n (m:Int)=n%(2^k:Nat):=by
 have hp:=Nat.two_pow_pos k
 have hle:2^k≤9223372036854775808:=pow2_le k 63 hk
 have h1:(BitVec.ofInt 64 n).toNat=(n%18446744073709551616).toNat:=by
  rw [BitVec.toNat_ofInt];rfl
 have h2:(BitVec.ofInt 64 (m:Int)).toNat=m:=by
  rw [BitVec.ofInt_natCast,BitVec.toNat_ofNat];exact Nat.mod_eq_of_lt (by omega)
 show IntKind.i64.wrap ((BitVec.ofInt 64 n &&& BitVec.ofInt 64 (m:Int)).toNat:Int)=_
 rw [BitVec.toNat_and,h1,h2,hm,Nat.and_two_pow_sub_one_eq_mod,IntKind.wrap_i64]
 have h3:(((n%18446744073709551616).toNat%2^k:Nat):Int)=n%(2^k:Nat):=by
  rw [Int.natCast_emod,Int.toNat_of_nonneg (by omega)]
  have hd:((2^k:Nat):Int)∣18446744073709551616:=by
   have:(18446744073709551616:Nat)=2^k*2^(64-k):=by rw [← Nat.pow_add,show k+(64-k)=64 by omega]
   refine ⟨((2^(64-k):Nat):Int),?_⟩
   rw [← Int.natCast_mul,← this];rfl
  exact Int.emod_emod_of_dvd n hd
 rw [h3]
 have h4:0≤n%((2^k:Nat):Int):=Int.emod_nonneg _ (by omega)
 have h5:n%((2^k:Nat):Int)<((2^k:Nat):Int):=Int.emod_lt_of_pos _ (by omega)
 omega
end Go.Proofs.YtechbdnhalmobaaGreatDoor
