/- The walks of package wide's Div, Cmp, Int64. The walks of package wide's Int64, Sqrt. The walk of package wide's Sqrt. The walks of package root. The walks of package root: Up, MulDiv, MulDivUp, fit, Floor, Ceil, Near. The walks of package root: fit, Floor, Ceil, Near. Plain laws of roots and quotients; package root's functions at whole numbers. No program in sight. The walks of RootSquares and of what package root's laws' awake says. -/
import Derived.Test.YtnoidlacjiafdaaGreatBX
import Derived.Deep.LoopGhost
import Derived.Deep.CutBlock
import Derived.Deep.Cut
namespace Go.Proofs.YtnoidlacjiafdaaGreat
set_option maxRecDepth 100000
set_option maxHeartbeats 16000000
set_option linter.unusedSimpArgs false
set_option linter.unusedVariables false
open Go.RowKit
theorem az {P:Program} {fn:Func} {R:Ending→World→Prop} {a:Act} {w:World} {p u:Tmp} {ty:TypeId} {g:Nat} (n:Nat) (cs:Array Value) (v:Value) {d:TypeDesc}
  (h:fn.results=#[.cell p ty,.tmp u]) (hde:a.defers = []) (hp:a.tmps.getD p undef = .pointer (some ⟨g,0,none⟩)) (hv:a.tmps.getD u undef=v)
  (hu:P.underlying ty=some d) (hd:d.isRow=true) (hi:(P.info? ty).map (·.size)=some n) (hg:w.row? g 0 n=some cs) (hR:R (.returned (.tuple #[.agg cs,v])) w) :
  bodyPost P fn R .ret a w:=by
 refine bodyPost_ret (v := .tuple #[.agg cs,v]) ?_ hde hR;rw[results_cell_tmp h,hp,hv];simp[asAddr,Result.andThen,run_loadVar_row? w g 0 n ty cs d hu hd hi hg]
abbrev z5:Array Value:=#[.int .i64 0,.int .i64 0,.int .i64 0,.int .i64 0,.int .i64 0]
def eC (P:Program) (ty:TypeId):Bool:=match P.underlying ty with|some d=>d.isRow|none=>false
theorem rT {P:Program} {fn:Func} {R:Ending→World→Prop} {a:Act} {w:World} {p u:Tmp} {ty:TypeId} {g:Nat} (n:Nat) (cs:Array Value) (v:Value) (hR:R (.returned (.tuple #[.agg cs,v])) w) (h:fn.results=#[.cell p ty,.tmp u]:=by rfl) (hde:a.defers = []:=by rfl) (hp:a.tmps.getD p undef = .pointer (some ⟨g,0,none⟩):=by rfl) (hv:a.tmps.getD u undef=v:=by rfl) (hd:eC P ty=true:=by kernel_rfl) (hi:(P.info? ty).map (·.size)=some n:=by kernel_rfl) (hg:w.row? g 0 n=some cs:=by first|exact rc5|exact rc6|exact rc3):bodyPost P fn R .ret a w:=by
  unfold eC at hd;split at hd
  · rename_i d hu;exact az n cs v h hde hp hv hu hd hi hg hR
  · cases hd
theorem CJ:(rowW 16 0).setIfInBounds 0 (.int .u64 1)=rowW 16 1:=kT 1 (by decide)
theorem div_over (x y:WI) (h:x.ov=true∨y.ov=true) (w:World) :
  Calls Tryz.prog 118 #[.agg x.cells,.agg y.cells] w fun e w'=>e = .returned (.tuple #[.agg (x.div y).1.cells,.int .i64 (x.div y).2])∧Below w.heap.size w w':=by
 rw[WI.div_over x y h];have E:=Lh WI.of_0;cases hx:x.ov with
 | true =>
  clear h;go_enter Tryz.func118,Tryz.ntmps118;go_wp2_with fail;exact az 18 (cellsI false false 0) (.int .i64 2) rfl rfl rfl rfl Tryz.underlying47 rfl aE (by go_simp) ⟨by rw[E.out],ae⟩
 | false =>
  have hy:y.ov=true:=by rcases h with h|h <;> simp_all
  clear h;go_enter Tryz.func118,Tryz.ntmps118;go_wp2_with fail;exact az 18 (cellsI false false 0) (.int .i64 2) rfl rfl rfl rfl Tryz.underlying47 rfl aE (by go_simp) ⟨by rw[E.out],ae⟩
theorem div_zero (x y:WI) (hx:x.ov=false) (hy:y.ov=false) (h:y.sz=0) (w:World) :
  Calls Tryz.prog 118 #[.agg x.cells,.agg y.cells] w fun e w'=>e = .returned (.tuple #[.agg (x.div y).1.cells,.int .i64 (x.div y).2])∧Below w.heap.size w w':=by
 rw[WI.div_zero x y hx hy h];have E:=Lh WI.of_0;have hq:eqW y.sz 0=true:=by rw[eD _ y.bC];simp[h]
 clear h;go_enter Tryz.func118,Tryz.ntmps118;go_wp2_with fail;exact az 18 (cellsI false false 0) (.int .i64 1) rfl rfl rfl rfl Tryz.underlying47 rfl aE (by go_simp) ⟨by rw[E.out],ae⟩
theorem div_some (x y:WI) (hx:x.ov=false) (hy:y.ov=false) (h:y.sz≠0) (w:World) :
  Calls Tryz.prog 118 #[.agg x.cells,.agg y.cells] w fun e w'=>e = .returned (.tuple #[.agg (x.div y).1.cells,.int .i64 (x.div y).2])∧Below w.heap.size w w':=by
 rw[WI.div_some x y hx hy h];have hq:eqW y.sz 0=false:=by rw[eD _ y.bC];simp[h]
 obtain⟨Q,hQ⟩:∃ Q,Q=x.sz/y.sz:=⟨_,rfl⟩;obtain⟨R,hR⟩:∃ R,R=x.sz%y.sz:=⟨_,rfl⟩;have hQl:Q<lim:=by rw[hQ];exact Nat.lt_of_le_of_lt (Nat.div_le_self _ _) x.jX
 have hQ16:Q<W16:=Nat.lt_of_lt_of_le hQl mB;have hQ17:Q+1<W16:=by have:=pP;have:=dP;omega
 have hRl:R<W16:=by rw[hR];exact Nat.lt_of_le_of_lt (Nat.mod_le _ _) x.bC
 have hRq:=eD R hRl;rw[← hQ,← hR];have HQ:=Lh hQ;have HR:=Lh hR;have HY:=Lh h;have HL:Hid (Q<W16∧Q+1<W16):=⟨hQ16,hQ17⟩;have r1:=CJ;clear hQ hR hQl hQ16 hQ17 hRl h;cases hb:(x.ng != y.ng) with
 | false =>
  have hb':(!x.ng==y.ng)=false:=by rw[← hb];cases x.ng <;> cases y.ng <;> rfl
  have hb2:(x.ng==y.ng)=true:=by revert hb;cases x.ng <;> cases y.ng <;> simp
  clear hRq;go_enter Tryz.func118,Tryz.ntmps118;go_wp2_with fail;refine(ji _ _ _ x.bC y.bC HY.out).mono ?_;rintro e w1 ⟨rfl,hb1⟩;rw[← HQ.out,← HR.out];have z_w1:=hb1.size;(try simp at z_w1);have K_w1_0:=bq3 hb1 (w.heap.size);go_wp2_with fail;refine(fL _ Q HL.out.1 _).mono ?_;rintro e w2 ⟨rfl,hb2⟩;have z_w2:=hb2.size;(try simp at z_w2);have K_w2_0:=bq3 hb2 (w.heap.size);go_wp2_with fail;exact az 18 (WI.of (sgn false Q)).cells (.int .i64 0) rfl rfl rfl rfl Tryz.underlying47 rfl aE (by go_simp) ⟨rfl,ae⟩
 | true =>
  have hb':(!x.ng==y.ng)=true:=by rw[← hb];cases x.ng <;> cases y.ng <;> rfl
  by_cases hR0:R=0
  ·have hq2:eqW R 0=true:=by rw[hRq];simp[hR0]
   have HR0:=Lh hR0;clear hRq hR0;go_enter Tryz.func118,Tryz.ntmps118;go_wp2_with fail;refine(ji _ _ _ x.bC y.bC HY.out).mono ?_;rintro e w1 ⟨rfl,hb1⟩;rw[← HQ.out,← HR.out];have z_w1:=hb1.size;(try simp at z_w1);have K_w1_0:=bq3 hb1 (w.heap.size);go_wp2_with fail;refine(fL _ Q HL.out.1 _).mono ?_;rintro e w2 ⟨rfl,hb2⟩;have z_w2:=hb2.size;(try simp at z_w2);have K_w2_0:=bq3 hb2 (w.heap.size);go_wp2_with fail;all_goals exact az 18 (WI.of (sgn true Q)).cells (.int .i64 0) rfl rfl rfl rfl Tryz.underlying47 rfl aE (by go_simp) ⟨by first|rfl|(rw[HR0.out];rfl),ae⟩
  ·have hq2:eqW R 0=false:=by rw[hRq];simp[hR0]
   have HR0:=Lh hR0;clear hRq hR0;go_enter Tryz.func118,Tryz.ntmps118;go_wp2_with fail;refine(ji _ _ _ x.bC y.bC HY.out).mono ?_;rintro e w1 ⟨rfl,hb1⟩;rw[← HQ.out,← HR.out];have z_w1:=hb1.size;(try simp at z_w1);have K_w1_0:=bq3 hb1 (w.heap.size);go_wp2_with fail;have ne2:¬ (w.heap.size+1+1=w1.heap.size):=by omega
   refine(zH _ _ _ _ Q 1 _ (.bT (((Blk.new _ _ _).alloc _).alloc _)) (.bT (Blk.new' _ _ _ (by simp)))).mono ?_;rintro e w2 ⟨rfl,hb2⟩;have z_w2:=hb2.size;(try simp at z_w2);have K_w2_0:=bq3 hb2 (w.heap.size);have K_w2_1:=bq3 hb2 (w1.heap.size);go_wp2_with fail;refine(fL _ (Q+1) HL.out.2 _).mono ?_;rintro e w3 ⟨rfl,hb3⟩;have z_w3:=hb3.size;(try simp at z_w3);have K_w3_0:=bq3 hb3 (w.heap.size);have K_w3_1:=bq3 hb3 (w1.heap.size);go_wp2_with fail;all_goals exact az 18 (WI.of (sgn true (Q+1))).cells (.int .i64 0) rfl rfl rfl rfl Tryz.underlying47 rfl aE (by go_simp) ⟨by simp,ae⟩
theorem yO (x y:WI) (w:World) :
  Calls Tryz.prog 118 #[.agg x.cells,.agg y.cells] w fun e w'=>e = .returned (.tuple #[.agg (x.div y).1.cells,.int .i64 (x.div y).2])∧Below w.heap.size w w':=by
 cases hx:x.ov with
 | true=>exact div_over x y (.inl hx) w
 | false =>
  cases hy:y.ov with
  | true=>exact div_over x y (.inr hy) w
  | false =>
   by_cases h:y.sz=0
   ·exact div_zero x y hx hy h w
   ·exact div_some x y hx hy h w
def WI.cmp (x y:WI):Int × Bool :=
 match x.v,y.v with
 | some a,some b=>(if a<b then -1 else if b<a then 1 else 0,true)
 | _,_=>(0,false)
theorem WI.jl (x y:WI) (h:x.ov=true∨y.ov=true):x.cmp y=(0,false):=by
 unfold WI.cmp;unfold WI.ov at h;cases hx:x.v <;> cases hy:y.v <;> simp_all
theorem WI.nS (x:WI) (h:x.ng=true):x.sz≠0:=by
 unfold WI.ng at h;unfold WI.sz;cases hx:x.v <;> simp_all <;> omega
theorem WI.yU (x y:WI) (hx:x.ov=false) (hy:y.ov=false):x.cmp y=(if x.ng then (if y.ng then eE y.sz x.sz else -1) else (if y.ng then 1 else eE x.sz y.sz),true):=by
 have h1:=x.nS;have h2:=y.nS;unfold WI.cmp;rw[WI.br hx,WI.br hy];refine congrArg (fun t=>(t,true)) ?_;simp only[sgn,eE];cases hxn:x.ng with
 | true =>
  have h3:=h1 hxn;cases hyn:y.ng with
  | true=>simp only[if_true];(repeat' split) <;> first|rfl|omega
  | false=>simp only[if_true,Bool.false_eq_true,if_false];(repeat' split) <;> first|rfl|omega
 | false =>
  cases hyn:y.ng with
  | true=>have h4:=h2 hyn;simp only[if_true,Bool.false_eq_true,if_false];(repeat' split) <;> first|rfl|omega
  | false=>simp only[Bool.false_eq_true,if_false];(repeat' split) <;> first|rfl|omega
theorem yV (x y:WI) (w:World) :
  Calls Tryz.prog 124 #[.agg x.cells,.agg y.cells] w fun e w'=>e = .returned (.tuple #[.int .i64 (x.cmp y).1,.bool (x.cmp y).2])∧Below w.heap.size w w':=by
 cases hx:x.ov with
 | true =>
  rw[WI.jl x y (.inl hx)];go_enter Tryz.func124,Tryz.ntmps124;go_wp2_with fail;go_ret2
  exact⟨rfl,ae⟩
 | false =>
  cases hy:y.ov with
  | true =>
   rw[WI.jl x y (.inr hy)];go_enter Tryz.func124,Tryz.ntmps124;go_wp2_with fail;go_ret2
   exact⟨rfl,ae⟩
  | false =>
   rw[WI.yU x y hx hy];cases hxn:x.ng with
   | true =>
    cases hyn:y.ng with
    | true =>
     go_enter Tryz.func124,Tryz.ntmps124;go_wp2_with fail;refine(kD _ _ _ _ y.sz x.sz _ y.bC x.bC (.da (Blk.new' _ _ _ (by simp))) (.da ((Blk.new _ _ _).alloc _))).mono ?_;rintro e w1 ⟨rfl,hb1⟩;have z_w1:=hb1.size;(try simp at z_w1);have Kw1aa:=bq hb1 (w.heap.size);have Kw1ab:=bq hb1 (w.heap.size+1);go_wp2_with fail;go_ret2
     exact⟨rfl,ae⟩
    | false =>
     go_enter Tryz.func124,Tryz.ntmps124;go_wp2_with fail;go_ret2
     exact⟨rfl,ae⟩
   | false =>
    cases hyn:y.ng with
    | true =>
     go_enter Tryz.func124,Tryz.ntmps124;go_wp2_with fail;go_ret2
     exact⟨rfl,ae⟩
    | false =>
     go_enter Tryz.func124,Tryz.ntmps124;go_wp2_with fail;refine(kD _ _ _ _ x.sz y.sz _ x.bC y.bC (.da ((Blk.new _ _ _).alloc _)) (.da (Blk.new' _ _ _ (by simp)))).mono ?_;rintro e w1 ⟨rfl,hb1⟩;have z_w1:=hb1.size;(try simp at z_w1);have Kw1aa:=bq hb1 (w.heap.size);have Kw1ab:=bq hb1 (w.heap.size+1);go_wp2_with fail;go_ret2
     exact⟨rfl,ae⟩
def WI.i64 (x:WI):Int × Bool :=
 match x.v with
 | some a=>if -9223372036854775808≤a∧a≤9223372036854775807 then (a,true) else (0,false)
 | none=>(0,false)
theorem WI.qV (x:WI) (h:x.ov=true):x.i64=(0,false):=by
 unfold WI.i64;unfold WI.ov at h;cases hx:x.v <;> simp_all
theorem WI.mE (x:WI) (h:x.ov=false):x.i64=if x.sz≤9223372036854775807∨(x.sz=9223372036854775808∧x.ng=true) then (sgn x.ng x.sz,true) else (0,false):=by
 have h1:=x.nS;unfold WI.i64;rw[WI.br h]
 have e:(-9223372036854775808≤sgn x.ng x.sz∧sgn x.ng x.sz≤9223372036854775807)↔(x.sz≤9223372036854775807∨(x.sz=9223372036854775808∧x.ng=true)):=by
  unfold sgn;cases hn:x.ng with
  | true =>
   have:=h1 hn;simp only[if_true,and_true];omega
  | false=>simp only[Bool.false_eq_true,if_false,and_false,or_false];omega
 simp only[e]
@[simp] theorem WI.FP (x : WI) (h : 2 < x.cells.size) : x.cells[2] = .int .u64 (wd x.sz 0) := by
  have h1:x.cells[2+0]? = _:=x.iJ 0 (by decide);exact cO h1 h
theorem uY (N:Nat) (h:N<18446744073709551616):wd N 0=(N:Int):=by
 unfold wd wdn;rw[Nat.mul_zero,Nat.pow_zero,Nat.div_one];omega
theorem um (x:WI) (w:World) :
  Calls Tryz.prog 143 #[.agg x.cells] w fun e w'=>e = .returned (.tuple #[.int .i64 x.i64.1,.bool x.i64.2])∧Below w.heap.size w w':=by
 have HLT:=Lh x.bC;cases ho:x.ov with
 | true =>
  rw[WI.qV x ho];go_enter Tryz.func143,Tryz.ntmps143;go_wp2_with fail;go_ret2
  exact⟨rfl,ae⟩
 | false =>
  rw[WI.mE x ho];by_cases hb:64<bl x.sz
  ·have hge:¬ x.sz<18446744073709551616:=fun h=>by have:=(cE x.sz 64).2 h;omega
   rw[if_neg (by omega)];have h1:(64:Int)<(bl x.sz:Int):=by omega
   clear hge hb;go_enter Tryz.func143,Tryz.ntmps143;go_wp2_with (go_at_call 106;refine(eH _ _ x.sz _ HLT.out (.da (Blk.new _ _ _))).mono ?_;rintro e w' ⟨rfl,rfl⟩)
   go_ret2
   exact⟨rfl,ae⟩
  ·have hlt:x.sz<18446744073709551616:=(cE x.sz 64).1 (by omega);have h1:(bl x.sz:Int)≤64:=by omega
   obtain⟨N,hN⟩:∃ N,N=x.sz:=⟨_,rfl⟩;have h2:wd x.sz 0=(N:Int):=by rw[hN];exact uY _ hlt
   rw[← hN] at hlt ⊢;have HN:=Lh hN;clear hN hb;by_cases hg:9223372036854775808<N
   ·rw[if_neg (by omega)];have h3:(9223372036854775808:Int)<(N:Int):=by omega
    clear hlt;go_enter Tryz.func143,Tryz.ntmps143;go_wp2_with (go_at_call 106;refine(eH _ _ x.sz _ HLT.out (.da (Blk.new _ _ _))).mono ?_;rintro e w' ⟨rfl,rfl⟩)
    go_ret2
    exact⟨rfl,ae⟩
   ·by_cases he:N=9223372036854775808
    ·cases hn:x.ng with
     | true =>
      rw[if_pos (.inr ⟨he,rfl⟩)];have h3:IntKind.u64.wrap (-(N:Int))=(N:Int):=by rw[IntKind.wrap_u64];omega
      have h4:IntKind.i64.wrap (N:Int) = -(N:Int):=by rw[IntKind.wrap_i64];omega
      have h5:¬ 9223372036854775808<N:=hg;have h6:(N:Int)=9223372036854775808:=by omega
      have HE:=Lh he;have h7:(N:Int)≤9223372036854775808:=by omega
      clear hlt he;go_enter Tryz.func143,Tryz.ntmps143;go_wp2_with (go_at_call 106;refine(eH _ _ x.sz _ HLT.out (.da (Blk.new _ _ _))).mono ?_;rintro e w' ⟨rfl,rfl⟩)
      have hw:wrap64 (IntKind.u64.wrap (-9223372036854775808)) = -9223372036854775808:=by rw[IntKind.wrap_u64];unfold wrap64;omega
      go_ret2
      exact⟨by rw[HE.out,hw];rfl,ae⟩
     | false =>
      rw[if_neg (by simp;omega)];have h6:(N:Int)=9223372036854775808:=by omega
      clear hlt he;go_enter Tryz.func143,Tryz.ntmps143;go_wp2_with (go_at_call 106;refine(eH _ _ x.sz _ HLT.out (.da (Blk.new _ _ _))).mono ?_;rintro e w' ⟨rfl,rfl⟩)
      go_ret2
      exact⟨rfl,ae⟩
    ·rw[if_pos (.inl (by omega))];have h5:¬ 9223372036854775808<N:=hg;have h6:¬ N=9223372036854775808:=he;have h6':¬ (N:Int)=9223372036854775808:=by omega
     have h7:(N:Int)≤9223372036854775808:=by omega
     cases hn:x.ng with
     | true =>
      have hz:N≠0:=by rw[HN.out];exact x.nS hn
      obtain⟨Q,hQ⟩:∃ Q,Q=18446744073709551616-N:=⟨_,rfl⟩;have h3:IntKind.u64.wrap (-(N:Int))=(Q:Int):=by rw[IntKind.wrap_u64];omega
      have h4:IntKind.i64.wrap (Q:Int) = -(N:Int):=by rw[IntKind.wrap_i64];omega
      clear hlt he hg hz hQ;go_enter Tryz.func143,Tryz.ntmps143;go_wp2_with (go_at_call 106;refine(eH _ _ x.sz _ HLT.out (.da (Blk.new _ _ _))).mono ?_;rintro e w' ⟨rfl,rfl⟩)
      go_ret2
      exact⟨rfl,ae⟩
     | false =>
      have h4:IntKind.i64.wrap (N:Int)=(N:Int):=by rw[IntKind.wrap_i64];omega
      clear hlt he hg;go_enter Tryz.func143,Tryz.ntmps143;go_wp2_with (go_at_call 106;refine(eH _ _ x.sz _ HLT.out (.da (Blk.new _ _ _))).mono ?_;rintro e w' ⟨rfl,rfl⟩)
      go_ret2
      exact⟨rfl,ae⟩
def WI.sqrt (x:WI):WI × Int :=
 match x.v with
 | some a=>if a<0 then (WI.of 0,1) else (WI.of (rt a.toNat:Nat),0)
 | none=>(WI.of 0,2)
theorem WI.nC (x:WI) (h:x.ov=true):x.sqrt=(WI.of 0,2):=by
 unfold WI.sqrt;unfold WI.ov at h;cases hx:x.v <;> simp_all
theorem WI.qc (x:WI) (h:x.ov=false) (hn:x.ng=true):x.sqrt=(WI.of 0,1):=by
 have:=x.nS hn;unfold WI.sqrt;rw[WI.br h];simp only[sgn,hn,if_true];rw[if_pos (by omega)]
theorem WI.iR (x:WI) (h:x.ov=false) (hn:x.ng=false):x.sqrt=(WI.of (rt x.sz:Nat),0):=by
 unfold WI.sqrt;rw[WI.br h];simp only[sgn,hn,Bool.false_eq_true,if_false];rw[if_neg (by omega)];rfl
theorem vh (x:WI) (h:x.ov=true∨x.ng=true∨x.sz=0) (w:World) :
  Calls Tryz.prog 123 #[.agg x.cells] w fun e w'=>e = .returned (.tuple #[.agg x.sqrt.1.cells,.int .i64 x.sqrt.2])∧Below w.heap.size w w':=by
 have E:=Lh WI.of_0;cases ho:x.ov with
 | true =>
  rw[WI.nC x ho];clear h;go_enter Tryz.func123,Tryz.ntmps123;go_wp2_with fail;exact az 18 (cellsI false false 0) (.int .i64 2) rfl rfl rfl rfl Tryz.underlying47 rfl aE (by go_simp) ⟨by rw[E.out],ae⟩
 | false =>
  cases hn:x.ng with
  | true =>
   rw[WI.qc x ho hn];clear h;go_enter Tryz.func123,Tryz.ntmps123;go_wp2_with fail;exact az 18 (cellsI false false 0) (.int .i64 1) rfl rfl rfl rfl Tryz.underlying47 rfl aE (by go_simp) ⟨by rw[E.out],ae⟩
  | false =>
   have h0:x.sz=0:=by rw[ho,hn] at h;simpa using h
   rw[WI.iR x ho hn];have hq:eqW x.sz 0=true:=by rw[eD _ x.bC];simp[h0]
   have E2:Hid (x.cells=(WI.of (rt x.sz:Nat)).cells):=by
    show _=_;rw[h0,show((rt 0:Nat):Int)=0 from rfl,WI.of_0,x.dc,hn,ho,h0]
   clear h h0;go_enter Tryz.func123,Tryz.ntmps123;go_wp2_with fail;exact az 18 x.cells (.int .i64 0) rfl rfl rfl rfl Tryz.underlying47 rfl aE (by go_simp) ⟨by rw[E2.out],ae⟩
theorem vg (x:WI) (ho:x.ov=false) (hn:x.ng=false) (h0:x.sz≠0) (w:World) :
  Calls Tryz.prog 123 #[.agg x.cells] w fun e w'=>e = .returned (.tuple #[.agg x.sqrt.1.cells,.int .i64 x.sqrt.2])∧Below w.heap.size w w':=by
 rw[WI.iR x ho hn];have hq:eqW x.sz 0=false:=by rw[eD _ x.bC];simp[h0]
 have HLT:=Lh x.bC;have hbl:=(iE x.sz).2 x.jX;obtain⟨b,hb⟩:∃ b,b=bl x.sz:=⟨_,rfl⟩;obtain⟨k,hk⟩:∃ k,k=(b+1)/2:=⟨_,rfl⟩;have hk1:k≤512:=by omega
 have k1:wrap64 ((b:Int)+1)=(b:Int)+1:=by unfold wrap64;omega
 have k2:((b:Int)+1).tdiv 2=(k:Int):=by rw[Int.tdiv_eq_ediv_of_nonneg (by omega)];omega
 have k3:((b:Int)+1)/2=(k:Int):=by omega
 have k4:(b:Int)≤1023:=by omega
 have HF:=Lh (i7 x.sz k (by omega))
 have HKL:Hid (2^k<lim):=by
  have:∀ n,n=1023→2^k<lim:=fun n hn=>by rw[pE n hn];exact Nat.pow_lt_pow_right (by decide) (by omega)
  exact this 1023 rfl
 have HKB:Hid (k<1024):=by show k<1024;omega
 have HBE:=Lh hb;have H0:=Lh h0;have r1:=CJ;clear hbl hb hk hk1 h0;go_enter Tryz.func123,Tryz.ntmps123;go_wp2_with fail;refine(eH _ _ x.sz _ HLT.out (.da (((Blk.new _ _ _).alloc _).alloc _))).mono ?_;rintro e w' ⟨rfl,rfl⟩;rw[← HBE.out];go_wp2_with fail;refine(E9 _ _ 1 k _ HKB.out (.bT (Blk.new' _ _ _ (by simp)))).mono ?_;rintro e w1 ⟨rfl,hb1⟩;rw[Nat.one_mul];have Q0:Hid (Blk w1 w.heap.size x.cells 47):=(((Blk.new _ _ _).alloc _).alloc _).keep hb1;have Q1:Hid (Blk w1 (w.heap.size+1) (cellsI false false 0) 47):=((Blk.new' _ _ _ (by simp)).alloc _).keep hb1;have HB1:Hid (Below w.heap.size w w1):=ae;have HG3:Hid (w.heap.size+1+1+1≤w1.heap.size):=by have:=hb1.size;simp at this;exact this
 clear hb1;go_upto_block 2 with fail
 obtain⟨g,hg⟩:∃ g,g=w1.heap.size:=⟨_,rfl⟩;have QX:Hid (Blk (w1.alloc (.cells (rowW 16 (2^k)) 45)) g (rowW 16 (2^k)) 45):=by rw[hg];exact Blk.new _ _ _
 replace Q0:=Lh (Q0.out.alloc (.cells (rowW 16 (2^k)) 45));replace Q1:=Lh (Q1.out.alloc (.cells (rowW 16 (2^k)) 45))
 have hg1:w.heap.size+1<g:=by
  have:=Q1.out.lt;have h2:=HB1.out.size;rw[hg];have h3:w.heap.size+1+1+1≤w1.heap.size:=HG3.out;omega
 replace HB1:=Lh (HB1.out.alloc HB1.out.size (.cells (rowW 16 (2^k)) 45));simp only[← hg];generalize w1.alloc (.cells (rowW 16 (2^k)) 45)=w2 at *;clear hg HG3;go_wp2_with fail;go_loopg [6,7,8,9] (2^k) (fun X _ _ _ _ wx=>Hid (0<X∧X<lim∧x.sz<(X+1)*(X+1))∧Hid (Below w.heap.size w wx)∧Hid (Blk wx w.heap.size x.cells 47)∧Hid (Blk wx (w.heap.size+1) (cellsI false false 0) 47)∧Hid (Blk wx g (rowW 16 X) 45))
 case atStart=>exact⟨⟨Nat.two_pow_pos _,HKL.out,HF.out⟩,HB1,Q0,Q1,QX⟩
 case round =>
  clear HB1 Q0 Q1 QX;obtain⟨HX,HB1,Q0,Q1,QX⟩:=hrel;obtain⟨Y,hY⟩:∃ Y,Y=(gk+x.sz/gk)/2:=⟨_,rfl⟩;obtain⟨S,hS⟩:∃ S,S=gk+x.sz/gk:=⟨_,rfl⟩;have hX0:=HX.out.1
  have hS16:S<W16:=by
   have h1:=HX.out.2.1;have h2:=x.jX;have h3:=Nat.div_le_self x.sz gk;have h4:=pP;rw[hS];omega
  have hY16:Y<W16:=by rw[hY,← hS];omega
  have hX16:gk<W16:=Nat.lt_of_lt_of_le HX.out.2.1 mB;have hstep:=ku (N:=x.sz) hX0;have hstop:=fun h=>ko (N:=x.sz) hX0 HX.out.2.2 h;rw[← hY] at hstep hstop
  have hY0:0<Y:=by
   rcases Nat.eq_zero_or_pos Y with h|h
   ·rw[h] at hstep;have:=H0.out;omega
   ·exact h
  have HS:=Lh hS;have HY:Hid (Y=S/2):=by show Y=_;rw[hY,hS]
  have HL:Hid (S<W16∧Y<W16∧gk<W16∧gk≠0):=⟨hS16,hY16,hX16,by omega⟩;have HSTOP:=Lh hstop;have HSTEP:Hid (0<Y∧x.sz<(Y+1)*(Y+1)):=⟨hY0,hstep⟩;have r0:wr.row? w.heap.size 2 16=some (rowW 16 x.sz):=by rw[Q0.out.row? 2 16 (by simp)];simp
  have rX:wr.row? g 0 16=some (rowW 16 gk):=QX.out.row?_all 16 (by simp);have tX:wr.fits g 16=true:=QX.out.fits 16 (by simp);have t1:wr.fits (w.heap.size+1) 18=true:=Q1.out.fits 18 (by simp);have z0:=QX.out.lt;have y0:w.heap.size<wr.heap.size:=by omega
  have y1:w.heap.size+1<wr.heap.size:=by omega
  clear hY hS hX0 hS16 hY16 hX16 hstep hstop hY0;go_wp2_with fail;refine(ji x.sz gk _ HLT.out HL.out.2.2.1 HL.out.2.2.2).mono ?_;rintro e w3 ⟨rfl,hb3⟩;have z_w3:=hb3.size;(try simp at z_w3);have Kw3aa:=bq hb3 (w.heap.size);have Kw3ab:=bq hb3 (w.heap.size+1);have K_w3_g:=bq hb3 (g);have QX3:=Lh (QX.out.keep hb3);have ne1:¬ (g=w3.heap.size):=by omega
  have ne2:¬ (g=w3.heap.size+1):=by omega
  go_wp2_with fail;refine(zH _ _ _ _ gk (x.sz/gk) _ (.bT ((QX3.out.alloc _).alloc _)) (.bT ((Blk.new _ _ _).alloc _))).mono ?_;rintro e w4 ⟨rfl,hb4⟩;rw[← HS.out];have z_w4:=hb4.size;(try simp at z_w4);have K_w4_0:=bq2 hb4 (w.heap.size);have K_w4_g:=bq hb4 (g);have QX4:=Lh (((QX3.out.alloc _).alloc _).keep hb4);have ne3:¬ (g=w4.heap.size):=by omega
  have ne4:¬ (w.heap.size+1=w4.heap.size):=by omega
  go_wp2_with fail;refine(yN _ _ S 1 _ HL.out.1 (by omega) (.bT (Blk.new _ _ _))).mono ?_;rintro e w5 ⟨rfl,hb5⟩;rw[Nat.pow_one,← HY.out];have z_w5:=hb5.size;(try simp at z_w5);have K_w5_0:=bq2 hb5 (w.heap.size);have Kw5ba:=bq hb5 (w4.heap.size);have K_w5_g:=bq hb5 (g);have QX5:=Lh ((QX4.out.alloc _).keep hb5);have QS5:=Lh (Blk.keep (Blk.new w4 (rowW 16 S) 45) hb5);have tS:w5.fits w4.heap.size 16=true:=QS5.out.fits 16 (by simp);have pS:=QS5.out.put? 0 (rowW 16 Y) (by simp) (by simp)
  have QY5:Hid (Blk (w5.putRow w4.heap.size 0 (rowW 16 Y)) w4.heap.size (rowW 16 Y) 45):=by
   have:=QS5.out.aK 0 (rowW 16 Y);rw[dw _ _ (by simp)] at this;exact this
  have QX6:Hid (Blk (w5.putRow w4.heap.size 0 (rowW 16 Y)) g (rowW 16 gk) 45):=QX5.out.aC ne3 0 _;go_wp2_with fail;refine(kD _ _ _ _ Y gk _ HL.out.2.1 HL.out.2.2.1 (.bT QY5.out) (.bT QX6.out)).mono ?_;rintro e w6 ⟨rfl,hb6⟩;have z_w6:=hb6.size;(try simp at z_w6);have K_w6_0:=bq2 hb6 (w.heap.size);have Kw6ba:=bq hb6 (w4.heap.size);have K_w6_g:=bq hb6 (g);have rY6:w6.row? w4.heap.size 0 16=some (rowW 16 Y):=(QY5.out.keep hb6).row?_all 16 (by simp);have rX6:w6.row? g 0 16=some (rowW 16 gk):=(QX6.out.keep hb6).row?_all 16 (by simp);have pX6:=(QX6.out.keep hb6).put? 0 (rowW 16 Y) (by simp) (by simp)
  have HB6:Hid (Below w.heap.size w w6):=by
   have h1:=HB1.out.size;exact Lh (((((((((HB1.out).trans (hb3.mono h1)).alloc (by omega) _).alloc (by simp;omega) _).trans (hb4.mono (by simp;omega))).alloc (by omega) _).trans (hb5.mono (by simp;omega))) |> fun h=>(ar h (by omega) 0 (rowW 16 Y)).trans (hb6.mono (by simp;omega))))
  have Q06:Hid (Blk w6 w.heap.size x.cells 47):=by
   have h3:=Q0.out.keep hb3;have h4:=((h3.alloc (.cells (rowW 16 (x.sz/gk)) 45)).alloc (.cells (rowW 16 (x.sz%gk)) 45)).keep hb4;have h5:=(h4.alloc (.cells (rowW 16 S) 45)).keep hb5;exact(h5.aC (by omega) 0 (rowW 16 Y)).keep hb6
  have Q16:Hid (Blk w6 (w.heap.size+1) (cellsI false false 0) 47):=by
   have h3:=Q1.out.keep hb3;have h4:=((h3.alloc (.cells (rowW 16 (x.sz/gk)) 45)).alloc (.cells (rowW 16 (x.sz%gk)) 45)).keep hb4;have h5:=(h4.alloc (.cells (rowW 16 S) 45)).keep hb5;exact(h5.aC (by omega) 0 (rowW 16 Y)).keep hb6
  have QX7:=Lh (QX6.out.keep hb6);have z6:=QX7.out.lt;by_cases hge:gk≤Y
  ·have hc:=pK hge;have HRT:=Lh (HSTOP.out hge);have t16:w6.fits (w.heap.size+1) 18=true:=Q16.out.fits 18 (by simp);have y16:w.heap.size+1<w6.heap.size:=Q16.out.lt;have HX16:=HL.out.2.2.1;have HXH:=Lh HX16;clear hge HX16 hb3 hb4 hb5 hb6;go_wp2_with fail;refine(fL false gk HXH.out _).mono ?_;rintro e w7 ⟨rfl,hb7⟩;have p7:=(Q16.out.keep hb7).put? 0 (WI.of (sgn false gk)).cells (by simp) (by simp);have r7:=cP p7 (n:=18) (by simp);go_wp2_with fail;exact az 18 (WI.of (sgn false gk)).cells (.int .i64 0) rfl rfl rfl rfl Tryz.underlying47 rfl aE r7 ⟨by rw[HRT.out];rfl,ar (HB6.out.trans (hb7.mono HB6.out.size)) (by omega) _ _⟩
  ·have hc:eE Y gk = -1:=by unfold eE;rw[if_pos (by omega)]
   have HLT2:Hid (Y<gk):=by show Y<gk;omega
   clear hge hb3 hb4 hb5 hb6;go_wp2_with fail;go_roundg Y
   case measure=>exact HLT2.out
   case rel =>
    have h7:=QX7.out.aK 0 (rowW 16 Y);rw[dw _ _ (by simp)] at h7;have h1:=HB6.out.size;exact⟨⟨HSTEP.out.1,by have:=HX.out.2.1;have:=HLT2.out;omega,HSTEP.out.2⟩,ar HB6.out (by omega) _ _,Q06.out.aC (by omega) _ _,Q16.out.aC (by omega) _ _,h7⟩
theorem oR (x:WI) (w:World) :
  Calls Tryz.prog 123 #[.agg x.cells] w fun e w'=>e = .returned (.tuple #[.agg x.sqrt.1.cells,.int .i64 x.sqrt.2])∧Below w.heap.size w w':=by
 by_cases h:x.ov=true∨x.ng=true∨x.sz=0
 ·exact vh x h w
 ·exact vg x (by simpa using fun h1=>h (.inl h1)) (by simpa using fun h1=>h (.inr (.inl h1))) (fun h1=>h (.inr (.inr h1))) w
def aV (x:WI) (e:Int):Int × Int:=if e≠0 then (0,e) else if x.i64.2 then (x.i64.1,0) else (0,2)
def dh (x y:WI):WI × Int:=((x.neg.div y).1.neg,(x.neg.div y).2)
def dn (x:WI):Int × Int:=aV x.sqrt.1 x.sqrt.2
def fY (x:WI):Int × Int:=aV (if x.sqrt.2=0∧((x.sqrt.1.mul x.sqrt.1).cmp x).1<0 then x.sqrt.1.add (WI.of 1) else x.sqrt.1) x.sqrt.2
def du (a b c:Int):Int × Int:=aV (((WI.of a).mul (WI.of b)).div (WI.of c)).1 (((WI.of a).mul (WI.of b)).div (WI.of c)).2
def cn (a b c:Int):Int × Int:=aV (dh ((WI.of a).mul (WI.of b)) (WI.of c)).1 (dh ((WI.of a).mul (WI.of b)) (WI.of c)).2
def fitV (x y:WI):Int:=if x.ov=true∨y.ov=true then 2 else if y.sign≤0 then 1 else 0
def floorV (x y:WI):Int × Int:=if fitV x y≠0 then (0,fitV x y) else aV (x.div y).1 (x.div y).2
def bP (x y:WI):Int × Int:=if fitV x y≠0 then (0,fitV x y) else aV (dh x y).1 (dh x y).2
def bR (x y:WI):Int × Int:=if fitV x y≠0 then (0,fitV x y) else floorV ((x.add x).add y) (y.add y)
theorem eh (x:WI) (e:Int) (w:World) :
  Calls Tryz.prog 116 #[.agg x.cells,.int .i64 e] w fun r w'=>r = .returned (.tuple #[.int .i64 (aV x e).1,.int .i64 (aV x e).2])∧Below w.heap.size w w':=by
 have E:Hid (aV x e=if e≠0 then (0,e) else if x.i64.2 then (x.i64.1,0) else (0,2)):=rfl;by_cases he:e=0
 ·subst he;cases hi:x.i64.2 with
  | true =>
   go_enter Tryz.func116,Tryz.ntmps116;go_wp2_with fail;refine(um _ _).mono ?_;rintro e w1 ⟨rfl,hb1⟩;rw[hi];have z_w1:=hb1.size;(try simp at z_w1);have Kw1aa:=bq hb1 (w.heap.size);go_wp2_with fail;go_ret2
   exact⟨by rw[E.out,hi];rfl,ae⟩
  | false =>
   go_enter Tryz.func116,Tryz.ntmps116;go_wp2_with fail;refine(um _ _).mono ?_;rintro e w1 ⟨rfl,hb1⟩;rw[hi];have z_w1:=hb1.size;(try simp at z_w1);have Kw1aa:=bq hb1 (w.heap.size);go_wp2_with fail;go_ret2
   exact⟨by rw[E.out,hi];rfl,ae⟩
 ·have HE:=Lh he;have h2:(e != 0)=true:=by simp[he]
  go_enter Tryz.func116,Tryz.ntmps116;go_wp2_with fail;go_ret2
  exact⟨by rw[E.out,if_pos HE.out];rfl,ae⟩
theorem uS (x y:WI) (w:World) :
  Calls Tryz.prog 117 #[.agg x.cells,.agg y.cells] w fun r w'=>r = .returned (.tuple #[.agg (dh x y).1.cells,.int .i64 (dh x y).2])∧Below w.heap.size w w':=by
 go_enter Tryz.func117,Tryz.ntmps117;go_wp2_with fail;go_cut [6,7] from 8 (fun s6 s7 wc=>∃ g,s6 = .pointer (some ⟨g,0,none⟩)∧s7 = .int .i64 (x.neg.div y).2∧w.heap.size+1+1+1≤g∧g<wc.heap.size∧wc.row? g 0 18=some (x.neg.div y).1.cells∧wc.fits (w.heap.size+1+1) 18=true∧Hid (Below w.heap.size w wc))
 case first =>
  go_region_held3 (fun w'=>w'.row? w.heap.size 0 18=some x.cells∧w'.row? (w.heap.size+1) 0 18=some y.cells) (go_simp)
   (first
    | (go_at_call 50;refine(qH _ _).mono ?_;rintro e w1 ⟨rfl,hb1⟩;have z_w1:=hb1.size;(try simp at z_w1);have K_w1_0:=bq3 hb1 (w.heap.size);(try (refine aI (bk hb1 (w.heap.size+1+1+1)) ?_ ?_;(focus (first|omega|(simp;done)|(simp;omega)));rintro⟨y_w1_q1,c_w1_q1,f_w1_q1,r_w1_q1,t_w1_q1,p_w1_q1⟩)))
    | (go_at_call 118;refine(yO _ _ _).mono ?_;rintro e w2 ⟨rfl,hb2⟩;have z_w2:=hb2.size;(try simp at z_w2);have K_w2_0:=bq3 hb2 (w.heap.size);(try (refine aI (bk hb2 (w.heap.size+1+1+1)) ?_ ?_;(focus (first|omega|(simp;done)|(simp;omega)));rintro⟨y_w2_q1,c_w2_q1,f_w2_q1,r_w2_q1,t_w2_q1,p_w2_q1⟩));(try (refine aI (bk hb2 (w1.heap.size)) ?_ ?_;(focus (first|omega|(simp;done)|(simp;omega)));rintro⟨y_w2_q2,c_w2_q2,f_w2_q2,r_w2_q2,t_w2_q2,p_w2_q2⟩;have n0_w2_q2:¬ (w.heap.size=w1.heap.size):=(by omega);have n1_w2_q2:¬ (w.heap.size+1=w1.heap.size):=(by omega);have n2_w2_q2:¬ (w.heap.size+1+1=w1.heap.size):=(by omega)))))
  all_goals go_wp2_with fail
  all_goals go_meet
  all_goals exact⟨_,rfl,rfl,(by first|omega|(simp;done)|(simp;omega)|fail),(by first|omega|(simp;done)|(simp;omega)|fail),(by go_simp),(by go_simp),ae⟩
 case rest =>
  obtain⟨g,rfl,rfl,hg1,hg2,hgr,hf,HBL⟩:=hcut;have y2:w.heap.size+1+1<wc.heap.size:=by omega
  have E:Hid (((x.neg.div y).1.neg,(x.neg.div y).2)=dh x y):=rfl;go_wp2_with fail;refine(qH _ _).mono ?_;rintro e w3 ⟨rfl,hb3⟩;have t3:w3.fits (w.heap.size+1+1) 18=true:=by rw[Below.fits hb3 _ _ y2];exact hf
  have p3:w3.put? (w.heap.size+1+1) 0 (x.neg.div y).1.neg.cells=some (w3.putRow (w.heap.size+1+1) 0 (x.neg.div y).1.neg.cells):=put?_fits (by simpa using t3) (by simp);have r3:=cP p3 (n:=18) (by simp);go_wp2_with fail;exact az 18 (x.neg.div y).1.neg.cells (.int .i64 (x.neg.div y).2) rfl rfl rfl rfl Tryz.underlying47 rfl aE r3 ⟨by rw[← E.out],ae⟩
theorem zT (x:WI) (w:World) :
  Calls Tryz.prog 74 #[.agg x.cells] w fun r w'=>r = .returned (.tuple #[.int .i64 (dn x).1,.int .i64 (dn x).2])∧Below w.heap.size w w':=by
 have E:Hid (dn x=aV x.sqrt.1 x.sqrt.2):=rfl;go_enter Tryz.func74,Tryz.ntmps74;go_wp2_with fail;refine(oR _ _).mono ?_;rintro e w1 ⟨rfl,hb1⟩;have z_w1:=hb1.size;(try simp at z_w1);have Kw1aa:=bq hb1 (w.heap.size);go_wp2_with fail;refine(eh _ _ _).mono ?_;rintro e w2 ⟨rfl,hb2⟩;have z_w2:=hb2.size;(try simp at z_w2);have Kw2aa:=bq hb2 (w.heap.size);go_wp2_with fail;go_ret2
 exact⟨by rw[E.out];rfl,ae⟩
theorem CN:Hid (-9223372036854775808≤(1:Int)∧(1:Int)≤9223372036854775807):=⟨by decide,by decide⟩
theorem pV (x:WI) (w:World) :
  Calls Tryz.prog 71 #[.agg x.cells] w fun r w'=>r = .returned (.tuple #[.int .i64 (fY x).1,.int .i64 (fY x).2])∧Below w.heap.size w w':=by
 have E:Hid (fY x=aV (if x.sqrt.2=0∧((x.sqrt.1.mul x.sqrt.1).cmp x).1<0 then x.sqrt.1.add (WI.of 1) else x.sqrt.1) x.sqrt.2):=rfl;obtain⟨r,hr⟩:∃ r,r=x.sqrt.1:=⟨_,rfl⟩;obtain⟨e0,he0⟩:∃ e0,e0=x.sqrt.2:=⟨_,rfl⟩;rw[← hr,← he0] at E;have HR:=Lh hr;have HE:=Lh he0;clear hr he0;by_cases h:e0=0∧((r.mul r).cmp x).1<0
 ·rw[if_pos h] at E;obtain⟨h1,h2⟩:=h;have H1:=Lh h1;have h3:(e0==0)=true:=by simp[h1]
  have h4:decide (((r.mul r).cmp x).1<0)=true:=decide_eq_true h2;clear h1;go_enter Tryz.func71,Tryz.ntmps71;go_wp2_with fail;refine(oR _ _).mono ?_;rintro e w1 ⟨rfl,hb1⟩;rw[← HR.out,← HE.out];have z_w1:=hb1.size;(try simp at z_w1);have Kw1aa:=bq hb1 (w.heap.size);go_wp2_with fail
  go_region_held3 (fun w'=>w'.row? w.heap.size 0 18=some x.cells∧w'.row? w1.heap.size 0 18=some r.cells) (go_simp)
   (first
    | (go_at_call 42;refine(cN _ _ _).mono ?_;rintro e w2 ⟨rfl,hb2⟩;have z_w2:=hb2.size;(try simp at z_w2);have Kw2aa:=bq hb2 (w.heap.size);have Kw2ba:=bq hb2 (w1.heap.size))
    | (go_at_call 124;refine(yV _ _ _).mono ?_;rintro e w3 ⟨rfl,hb3⟩;have z_w3:=hb3.size;(try simp at z_w3);have Kw3aa:=bq hb3 (w.heap.size);have Kw3ba:=bq hb3 (w1.heap.size)))
  all_goals have ne1:¬ (w.heap.size=w1.heap.size):=by omega
  all_goals go_wp2_with fail
  all_goals go_region_with
   (first
    | (go_at_call 39;refine(eg 1 CN.out.1 CN.out.2 _).mono ?_;rintro e w4 ⟨rfl,hb4⟩;have z_w4:=hb4.size;(try simp at z_w4);have Kw4aa:=bq hb4 (w.heap.size);have Kw4ba:=bq hb4 (w1.heap.size))
    | (go_at_call 41;refine(mV _ _ _).mono ?_;rintro e w5 ⟨rfl,hb5⟩;have z_w5:=hb5.size;(try simp at z_w5);have Kw5aa:=bq hb5 (w.heap.size);have Kw5ba:=bq hb5 (w1.heap.size)))
  all_goals go_wp2_with fail
  all_goals (refine(eh _ _ _).mono ?_;rintro e w6 ⟨rfl,hb6⟩)
  all_goals go_wp2_with fail
  all_goals go_ret2
  all_goals exact⟨by rw[E.out];rfl,ae⟩
 ·rw[if_neg h] at E;have HN:=Lh h;by_cases h1:e0=0
  ·have h2:¬ ((r.mul r).cmp x).1<0:=fun h2=>h ⟨h1,h2⟩;have h4:decide (((r.mul r).cmp x).1<0)=false:=decide_eq_false h2;have h3:(e0==0)=true:=by simp[h1]
   clear h h1;go_enter Tryz.func71,Tryz.ntmps71;go_wp2_with fail;refine(oR _ _).mono ?_;rintro e w1 ⟨rfl,hb1⟩;rw[← HR.out,← HE.out];have z_w1:=hb1.size;(try simp at z_w1);have Kw1aa:=bq hb1 (w.heap.size);go_wp2_with fail
   go_region_held3 (fun w'=>w'.row? w.heap.size 0 18=some x.cells∧w'.row? w1.heap.size 0 18=some r.cells) (go_simp)
    (first
     | (go_at_call 42;refine(cN _ _ _).mono ?_;rintro e w2 ⟨rfl,hb2⟩;have z_w2:=hb2.size;(try simp at z_w2);have Kw2aa:=bq hb2 (w.heap.size);have Kw2ba:=bq hb2 (w1.heap.size))
     | (go_at_call 124;refine(yV _ _ _).mono ?_;rintro e w3 ⟨rfl,hb3⟩;have z_w3:=hb3.size;(try simp at z_w3);have Kw3aa:=bq hb3 (w.heap.size);have Kw3ba:=bq hb3 (w1.heap.size)))
   all_goals go_wp2_with fail
   all_goals (refine(eh _ _ _).mono ?_;rintro e w6 ⟨rfl,hb6⟩)
   all_goals go_wp2_with fail
   all_goals go_ret2
   all_goals exact⟨by rw[E.out];rfl,ae⟩
  ·have h3:(e0==0)=false:=by simp[h1]
   have h3':¬ e0=0:=h1;clear h h1;go_enter Tryz.func71,Tryz.ntmps71;go_wp2_with fail;refine(oR _ _).mono ?_;rintro e w1 ⟨rfl,hb1⟩;rw[← HR.out,← HE.out];have z_w1:=hb1.size;(try simp at z_w1);have Kw1aa:=bq hb1 (w.heap.size);go_wp2_with fail
   go_region_held3 (fun w'=>w'.row? w.heap.size 0 18=some x.cells∧w'.row? w1.heap.size 0 18=some r.cells) (go_simp)
    (first
     | (go_at_call 42;refine(cN _ _ _).mono ?_;rintro e w2 ⟨rfl,hb2⟩;have z_w2:=hb2.size;(try simp at z_w2);have Kw2aa:=bq hb2 (w.heap.size);have Kw2ba:=bq hb2 (w1.heap.size))
     | (go_at_call 124;refine(yV _ _ _).mono ?_;rintro e w3 ⟨rfl,hb3⟩;have z_w3:=hb3.size;(try simp at z_w3);have Kw3aa:=bq hb3 (w.heap.size);have Kw3ba:=bq hb3 (w1.heap.size)))
   all_goals go_wp2_with fail
   all_goals (refine(eh _ _ _).mono ?_;rintro e w6 ⟨rfl,hb6⟩)
   all_goals go_wp2_with fail
   all_goals go_ret2
   all_goals exact⟨by rw[E.out];rfl,ae⟩
theorem Fr (n:Int) (h1 : -9223372036854775808≤n) (h2:n≤9223372036854775807) (w:World) :
  Calls Tryz.prog 68 #[.int .i64 n] w fun r w'=>r = .returned (.int .i64 (fY (WI.of (max 0 n))).1)∧Below w.heap.size w w':=by
 obtain⟨m,hm⟩:∃ m,m=max 0 n:=⟨_,rfl⟩;have HB:Hid (-9223372036854775808≤m∧m≤9223372036854775807):=⟨by omega,by omega⟩;have e1:max 0 n=m:=hm.symm;rw[e1];clear hm h1 h2;go_enter Tryz.func68,Tryz.ntmps68;go_wp2_with fail;refine(eg m HB.out.1 HB.out.2 _).mono ?_;rintro e w1 ⟨rfl,hb1⟩;go_wp2_with fail;refine(pV _ _).mono ?_;rintro e w2 ⟨rfl,hb2⟩;have hs:=hb1.size;go_wp2_with fail;go_ret;exact⟨rfl,ae⟩
theorem yd (a b c:Int) (ha : -9223372036854775808≤a∧a≤9223372036854775807) (hb : -9223372036854775808≤b∧b≤9223372036854775807) (hc : -9223372036854775808≤c∧c≤9223372036854775807) (w:World) :
  Calls Tryz.prog 147 #[.int .i64 a,.int .i64 b,.int .i64 c] w fun r w'=>r = .returned (.tuple #[.int .i64 (du a b c).1,.int .i64 (du a b c).2])∧Below w.heap.size w w':=by
 have E:Hid (du a b c=aV (((WI.of a).mul (WI.of b)).div (WI.of c)).1 (((WI.of a).mul (WI.of b)).div (WI.of c)).2):=rfl;have HA:=Lh ha;have HB:=Lh hb;have HC:=Lh hc;clear ha hb hc;go_enter Tryz.func147,Tryz.ntmps147;go_wp2_with fail;refine(eg a HA.out.1 HA.out.2 _).mono ?_;rintro e w1 ⟨rfl,hb1⟩;have s1:=hb1.size;go_wp2_with fail;refine(eg b HB.out.1 HB.out.2 _).mono ?_;rintro e w2 ⟨rfl,hb2⟩;have s2:=hb2.size;go_wp2_with fail;refine(cN _ _ _).mono ?_;rintro e w3 ⟨rfl,hb3⟩;have s3:=hb3.size;go_wp2_with fail;refine(eg c HC.out.1 HC.out.2 _).mono ?_;rintro e w4 ⟨rfl,hb4⟩;have s4:=hb4.size;go_wp2_with fail;refine(yO _ _ _).mono ?_;rintro e w5 ⟨rfl,hb5⟩;have s5:=hb5.size;go_wp2_with fail;refine(eh _ _ _).mono ?_;rintro e w6 ⟨rfl,hb6⟩;go_wp2_with fail;go_ret2
 exact⟨by rw[E.out];rfl,ae⟩
theorem sE (a b c:Int) (ha : -9223372036854775808≤a∧a≤9223372036854775807) (hb : -9223372036854775808≤b∧b≤9223372036854775807) (hc : -9223372036854775808≤c∧c≤9223372036854775807) (w:World) :
  Calls Tryz.prog 146 #[.int .i64 a,.int .i64 b,.int .i64 c] w fun r w'=>r = .returned (.tuple #[.int .i64 (cn a b c).1,.int .i64 (cn a b c).2])∧Below w.heap.size w w':=by
 have E:Hid (cn a b c=aV (dh ((WI.of a).mul (WI.of b)) (WI.of c)).1 (dh ((WI.of a).mul (WI.of b)) (WI.of c)).2):=rfl;have HA:=Lh ha;have HB:=Lh hb;have HC:=Lh hc;clear ha hb hc;go_enter Tryz.func146,Tryz.ntmps146;go_wp2_with fail;refine(eg a HA.out.1 HA.out.2 _).mono ?_;rintro e w1 ⟨rfl,hb1⟩;have s1:=hb1.size;go_wp2_with fail;refine(eg b HB.out.1 HB.out.2 _).mono ?_;rintro e w2 ⟨rfl,hb2⟩;have s2:=hb2.size;go_wp2_with fail;refine(cN _ _ _).mono ?_;rintro e w3 ⟨rfl,hb3⟩;have s3:=hb3.size;go_wp2_with fail;refine(eg c HC.out.1 HC.out.2 _).mono ?_;rintro e w4 ⟨rfl,hb4⟩;have s4:=hb4.size;go_wp2_with fail;refine(uS _ _ _).mono ?_;rintro e w5 ⟨rfl,hb5⟩;have s5:=hb5.size;go_wp2_with fail;refine(eh _ _ _).mono ?_;rintro e w6 ⟨rfl,hb6⟩;go_wp2_with fail;go_ret2
 exact⟨by rw[E.out];rfl,ae⟩
theorem oD (x y:WI) (w:World) :
  Calls Tryz.prog 115 #[.agg x.cells,.agg y.cells] w fun r w'=>r = .returned (.int .i64 (fitV x y))∧Below w.heap.size w w':=by
 have E:Hid (fitV x y=if x.ov=true∨y.ov=true then 2 else if y.sign≤0 then 1 else 0):=rfl;cases hx:x.ov with
 | true =>
  go_enter Tryz.func115,Tryz.ntmps115;go_wp2_with fail;refine(gb _ _).mono ?_;rintro e w1 ⟨rfl,hb1⟩;rw[hx];have z_w1:=hb1.size;(try simp at z_w1);have Kw1aa:=bq hb1 (w.heap.size);have Kw1ab:=bq hb1 (w.heap.size+1);go_wp2_with fail;go_ret;exact⟨by rw[E.out,if_pos (.inl hx)];rfl,ae⟩
 | false =>
  cases hy:y.ov with
  | true =>
   go_enter Tryz.func115,Tryz.ntmps115;go_wp2_with fail;refine(gb _ _).mono ?_;rintro e w1 ⟨rfl,hb1⟩;rw[hx];have z_w1:=hb1.size;(try simp at z_w1);have Kw1aa:=bq hb1 (w.heap.size);have Kw1ab:=bq hb1 (w.heap.size+1);go_wp2_with fail;refine(gb _ _).mono ?_;rintro e w2 ⟨rfl,hb2⟩;rw[hy];have z_w2:=hb2.size;(try simp at z_w2);have Kw2aa:=bq hb2 (w.heap.size);have Kw2ab:=bq hb2 (w.heap.size+1);go_wp2_with fail;go_ret;exact⟨by rw[E.out,if_pos (.inr hy)];rfl,ae⟩
  | false =>
   have hn:¬ (x.ov=true∨y.ov=true):=by rw[hx,hy];simp
   rw[if_neg hn] at E;clear hn;by_cases hs:y.sign≤0
   ·rw[if_pos hs] at E;go_enter Tryz.func115,Tryz.ntmps115;go_wp2_with fail;refine(gb _ _).mono ?_;rintro e w1 ⟨rfl,hb1⟩;rw[hx];have z_w1:=hb1.size;(try simp at z_w1);have Kw1aa:=bq hb1 (w.heap.size);have Kw1ab:=bq hb1 (w.heap.size+1);go_wp2_with fail;refine(gb _ _).mono ?_;rintro e w2 ⟨rfl,hb2⟩;rw[hy];have z_w2:=hb2.size;(try simp at z_w2);have Kw2aa:=bq hb2 (w.heap.size);have Kw2ab:=bq hb2 (w.heap.size+1);go_wp2_with fail;refine(dX _ _).mono ?_;rintro e w3 ⟨rfl,hb3⟩;have z_w3:=hb3.size;(try simp at z_w3);have Kw3aa:=bq hb3 (w.heap.size);have Kw3ab:=bq hb3 (w.heap.size+1);go_wp2_with fail;go_ret;exact⟨by rw[E.out];rfl,ae⟩
   ·rw[if_neg hs] at E;have hs':0<y.sign:=by omega
    clear hs;go_enter Tryz.func115,Tryz.ntmps115;go_wp2_with fail;refine(gb _ _).mono ?_;rintro e w1 ⟨rfl,hb1⟩;rw[hx];have z_w1:=hb1.size;(try simp at z_w1);have Kw1aa:=bq hb1 (w.heap.size);have Kw1ab:=bq hb1 (w.heap.size+1);go_wp2_with fail;refine(gb _ _).mono ?_;rintro e w2 ⟨rfl,hb2⟩;rw[hy];have z_w2:=hb2.size;(try simp at z_w2);have Kw2aa:=bq hb2 (w.heap.size);have Kw2ab:=bq hb2 (w.heap.size+1);go_wp2_with fail;refine(dX _ _).mono ?_;rintro e w3 ⟨rfl,hb3⟩;have z_w3:=hb3.size;(try simp at z_w3);have Kw3aa:=bq hb3 (w.heap.size);have Kw3ab:=bq hb3 (w.heap.size+1);go_wp2_with fail;go_ret;exact⟨by rw[E.out];rfl,ae⟩
theorem uy (x y:WI) (w:World) :
  Calls Tryz.prog 57 #[.agg x.cells,.agg y.cells] w fun r w'=>r = .returned (.tuple #[.int .i64 (floorV x y).1,.int .i64 (floorV x y).2])∧Below w.heap.size w w':=by
 have E:Hid (floorV x y=if fitV x y≠0 then (0,fitV x y) else aV (x.div y).1 (x.div y).2):=rfl;by_cases hf:fitV x y=0
 ·rw[if_neg (by simpa using hf)] at E;go_enter Tryz.func57,Tryz.ntmps57;go_wp2_with fail;refine(oD _ _ _).mono ?_;rintro e w1 ⟨rfl,hb1⟩;rw[hf];have z_w1:=hb1.size;(try simp at z_w1);have Kw1aa:=bq hb1 (w.heap.size);have Kw1ab:=bq hb1 (w.heap.size+1);go_wp2_with fail;refine(yO _ _ _).mono ?_;rintro e w2 ⟨rfl,hb2⟩;have z_w2:=hb2.size;(try simp at z_w2);have Kw2aa:=bq hb2 (w.heap.size);have Kw2ab:=bq hb2 (w.heap.size+1);go_wp2_with fail;refine(eh _ _ _).mono ?_;rintro e w3 ⟨rfl,hb3⟩;go_wp2_with fail;go_ret2
  exact⟨by rw[E.out];rfl,ae⟩
 ·rw[if_pos hf] at E;obtain⟨f,hff⟩:∃ f,f=fitV x y:=⟨_,rfl⟩;rw[← hff] at E hf;have HF:=Lh hff;have h2:(f != 0)=true:=by simp[hf]
  clear hff;go_enter Tryz.func57,Tryz.ntmps57;go_wp2_with fail;refine(oD _ _ _).mono ?_;rintro e w1 ⟨rfl,hb1⟩;rw[← HF.out];have z_w1:=hb1.size;(try simp at z_w1);have Kw1aa:=bq hb1 (w.heap.size);have Kw1ab:=bq hb1 (w.heap.size+1);go_wp2_with fail;go_ret2
  exact⟨by rw[E.out];rfl,ae⟩
theorem Ei (x y:WI) (w:World) :
  Calls Tryz.prog 56 #[.agg x.cells,.agg y.cells] w fun r w'=>r = .returned (.tuple #[.int .i64 (bP x y).1,.int .i64 (bP x y).2])∧Below w.heap.size w w':=by
 have E:Hid (bP x y=if fitV x y≠0 then (0,fitV x y) else aV (dh x y).1 (dh x y).2):=rfl;by_cases hf:fitV x y=0
 ·rw[if_neg (by simpa using hf)] at E;go_enter Tryz.func56,Tryz.ntmps56;go_wp2_with fail;refine(oD _ _ _).mono ?_;rintro e w1 ⟨rfl,hb1⟩;rw[hf];have z_w1:=hb1.size;(try simp at z_w1);have Kw1aa:=bq hb1 (w.heap.size);have Kw1ab:=bq hb1 (w.heap.size+1);go_wp2_with fail;refine(uS _ _ _).mono ?_;rintro e w2 ⟨rfl,hb2⟩;have z_w2:=hb2.size;(try simp at z_w2);have Kw2aa:=bq hb2 (w.heap.size);have Kw2ab:=bq hb2 (w.heap.size+1);go_wp2_with fail;refine(eh _ _ _).mono ?_;rintro e w3 ⟨rfl,hb3⟩;go_wp2_with fail;go_ret2
  exact⟨by rw[E.out];rfl,ae⟩
 ·rw[if_pos hf] at E;obtain⟨f,hff⟩:∃ f,f=fitV x y:=⟨_,rfl⟩;rw[← hff] at E hf;have HF:=Lh hff;have h2:(f != 0)=true:=by simp[hf]
  clear hff;go_enter Tryz.func56,Tryz.ntmps56;go_wp2_with fail;refine(oD _ _ _).mono ?_;rintro e w1 ⟨rfl,hb1⟩;rw[← HF.out];have z_w1:=hb1.size;(try simp at z_w1);have Kw1aa:=bq hb1 (w.heap.size);have Kw1ab:=bq hb1 (w.heap.size+1);go_wp2_with fail;go_ret2
  exact⟨by rw[E.out];rfl,ae⟩
theorem DL (x y:WI) (w:World) :
  Calls Tryz.prog 55 #[.agg x.cells,.agg y.cells] w fun r w'=>r = .returned (.tuple #[.int .i64 (bR x y).1,.int .i64 (bR x y).2])∧Below w.heap.size w w':=by
 have E:Hid (bR x y=if fitV x y≠0 then (0,fitV x y) else floorV ((x.add x).add y) (y.add y)):=rfl;by_cases hf:fitV x y=0
 ·rw[if_neg (by simpa using hf)] at E;go_enter Tryz.func55,Tryz.ntmps55;go_wp2_with fail;refine(oD _ _ _).mono ?_;rintro e w1 ⟨rfl,hb1⟩;rw[hf];have z_w1:=hb1.size;(try simp at z_w1);have Kw1aa:=bq hb1 (w.heap.size);have Kw1ab:=bq hb1 (w.heap.size+1);go_wp2_with fail
  go_region_held3 (fun w'=>w'.row? w.heap.size 0 18=some x.cells∧w'.row? (w.heap.size+1) 0 18=some y.cells) (go_simp)
   (first
    | (go_at_call 41;refine(mV _ _ _).mono ?_;rintro e w2 ⟨rfl,hb2⟩;have z_w2:=hb2.size;(try simp at z_w2);have Kw2aa:=bq hb2 (w.heap.size);have Kw2ab:=bq hb2 (w.heap.size+1))
    | (go_at_call 57;refine(uy _ _ _).mono ?_;rintro e w3 ⟨rfl,hb3⟩;have z_w3:=hb3.size;(try simp at z_w3);have Kw3aa:=bq hb3 (w.heap.size);have Kw3ab:=bq hb3 (w.heap.size+1)))
  all_goals go_wp2_with fail
  all_goals go_ret2
  all_goals exact⟨by rw[E.out];rfl,ae⟩
 ·rw[if_pos hf] at E;obtain⟨f,hff⟩:∃ f,f=fitV x y:=⟨_,rfl⟩;rw[← hff] at E hf;have HF:=Lh hff;have h2:(f != 0)=true:=by simp[hf]
  clear hff;go_enter Tryz.func55,Tryz.ntmps55;go_wp2_with fail;refine(oD _ _ _).mono ?_;rintro e w1 ⟨rfl,hb1⟩;rw[← HF.out];have z_w1:=hb1.size;(try simp at z_w1);have Kw1aa:=bq hb1 (w.heap.size);have Kw1ab:=bq hb1 (w.heap.size+1);go_wp2_with fail;go_ret2
  exact⟨by rw[E.out];rfl,ae⟩
def up (n:Nat):Nat:=if rt n*rt n<n then rt n+1 else rt n
theorem kP (n:Nat):n≤up n*up n∧(up n=0∨(up n-1)*(up n-1)<n):=by
 have h:=fJ n;unfold up;split
 ·rename_i h1;exact⟨by omega,.inr (by rw[Nat.add_sub_cancel];exact h1)⟩
 ·rename_i h1;refine⟨by omega,?_⟩;rcases Nat.eq_zero_or_pos (rt n) with h2|h2
  ·exact .inl h2
  ·right;have:(rt n-1)*(rt n-1)<rt n*rt n:=Nat.mul_lt_mul'' (by omega) (by omega);omega
theorem xp (n:Nat):rt n≤n:=by
 have h:=fJ n;rcases Nat.eq_zero_or_pos (rt n) with h1|h1
 ·omega
 ·have:rt n*1≤rt n*rt n:=Nat.mul_le_mul_left _ h1;omega
theorem xo (n k:Nat) (h:n<k*k):rt n<k:=by
 have h1:=fJ n;rcases Nat.lt_or_ge (rt n) k with h2|h2
 ·exact h2
 ·have:=gP h2;omega
theorem CD (n k:Nat) (h:n≤k*k):up n≤k:=by
 have ⟨a,b⟩:=kP n;rcases Nat.lt_or_ge k (up n) with h2|h2
 ·rcases b with b|b
  ·omega
  ·have:=gP (show k≤up n-1 by omega);omega
 ·exact h2
/-! ### Numbers that fit -/
def dS (q:Int):Int × Int:=if -9223372036854775808≤q∧q≤9223372036854775807 then (q,0) else (0,2)
theorem WI.xW (q:Int) (h:q.natAbs<lim):(WI.of q).i64=if -9223372036854775808≤q∧q≤9223372036854775807 then (q,true) else (0,false):=by
 unfold WI.i64;rw[WI.of_v h]
theorem fA (q:Int) (h:q.natAbs<lim):aV (WI.of q) 0=dS q:=by
 unfold aV dS;rw[WI.xW q h];simp only[ne_eq,not_true_eq_false,if_false];split <;> simp
theorem ms (x:WI) (e:Int) (h:e≠0):aV x e=(0,e):=by unfold aV;rw [if_pos h]
theorem fB {n:Nat} (h:n<18446744073709551616):n<lim:=nD h
theorem WI.po (n:Nat) (h:n<lim):(WI.of (n:Int)).sqrt=(WI.of (rt n:Nat),0):=by
 unfold WI.sqrt;rw[WI.of_v (by simpa using h)];simp only;rw[if_neg (by omega)];rfl
theorem uW (n:Nat) (h:n<lim):dn (WI.of (n:Int))=dS (rt n:Nat):=by
 unfold dn;rw[WI.po n h];exact fA _ (by have:=xp n;simp;omega)
theorem WI.DF (a b:Int) (ha:a.natAbs<lim) (hb:b.natAbs<lim):(WI.of a).cmp (WI.of b)=(if a<b then -1 else if b<a then 1 else 0,true):=by
 unfold WI.cmp;rw[WI.of_v ha,WI.of_v hb]
theorem tK (n:Nat) (h:n<lim) (h2:rt n<9223372036854775807):fY (WI.of (n:Int))=(((up n:Nat):Int),0):=by
 unfold fY;rw[WI.po n h];have hl:((rt n:Nat):Int).natAbs<lim:=by simpa using Nat.lt_of_le_of_lt (xp n) h
 have hs:(((rt n:Nat):Int)*((rt n:Nat):Int)).natAbs<lim:=by
  rw[← Int.natCast_mul,Int.natAbs_natCast];exact Nat.lt_of_le_of_lt (fJ n).1 h
 rw[WI.au hl hl,WI.DF _ _ hs (by simpa using h)];have e:((rt n:Nat):Int)*((rt n:Nat):Int)=((rt n*rt n:Nat):Int):=(Int.natCast_mul _ _).symm;have hle:=(fJ n).1;simp only[true_and];unfold up;by_cases hc:rt n*rt n<n
 ·rw[if_pos hc,if_pos (by rw[if_pos (by omega)];decide)];rw[WI.ce hl (by have:=fB (n:=1) (by decide);simpa using this)];have:((rt n:Nat):Int)+1=((rt n+1:Nat):Int):=by omega
  rw[this,fA _ (by rw[Int.natAbs_natCast];exact fB (by omega))];unfold dS;rw[if_pos (by omega)]
 ·rw[if_neg hc,if_neg (by rw[if_neg (by omega),if_neg (by omega)];decide)];rw[fA _ hl];unfold dS;rw[if_pos (by omega)]
/-! ### Quotients -/
theorem rS (x:Int):x=sgn (decide (x<0)) x.natAbs:=by unfold sgn;by_cases h:x<0 <;> simp [h] <;> omega
theorem rh (x c:Int) (hc:c≠0):(x.fdiv c).natAbs≤x.natAbs+1:=by
 rw[rS x,rS c,qi _ _ _ _ (by omega),dr,← rS x];have:=Nat.div_le_self x.natAbs c.natAbs;split <;> omega
theorem WI.pr (a b:Int) (ha:a.natAbs<lim) (hb:b.natAbs<lim) (h0:b≠0):(WI.of a).div (WI.of b)=(WI.of (a.fdiv b),0):=by
 unfold WI.div;rw[WI.of_v ha,WI.of_v hb];simp only[h0,if_false]
theorem WI.ub (a:Int) (ha:a.natAbs<lim):(WI.of a).div (WI.of 0)=(WI.of 0,1):=by
 unfold WI.div;rw[WI.of_v ha,WI.of_v (by simpa using dP)];simp
theorem tT {a:Int} (h:Sm 1000 a):a.natAbs+1<lim:=by
 have h1:=h.lim (k:=1000) (by decide);have h2:Sm 1001 (a+1)∧Sm 1001 (a-1):=⟨h.add (Sm.mono (j:=0) (by unfold Sm;decide) (by decide)),h.sub (Sm.mono (j:=0) (by unfold Sm;decide) (by decide))⟩;have h3:=h2.1.lim (by decide);have h4:=h2.2.lim (by decide);omega
theorem rd (a b:Int) (ha:Sm 1000 a) (hb:Sm 1000 b) (h0:b≠0):aV ((WI.of a).div (WI.of b)).1 ((WI.of a).div (WI.of b)).2=dS (a.fdiv b):=by
 rw[WI.pr a b (ha.lim (by decide)) (hb.lim (by decide)) h0];have:=rh a b h0;have:=tT ha;exact fA _ (by omega)
theorem uM (a b:Int) (ha:Sm 1000 a) (hb:Sm 1000 b) (h0:b≠0):aV (dh (WI.of a) (WI.of b)).1 (dh (WI.of a) (WI.of b)).2=dS (-((-a).fdiv b)):=by
 unfold dh;rw[WI.of_neg (ha.lim (by decide)),WI.pr (-a) b (ha.neg.lim (by decide)) (hb.lim (by decide)) h0];have h1:=rh (-a) b h0;have h2:=tT ha.neg;rw[WI.of_neg (by omega)];exact fA _ (by omega)
theorem nX (a b c:Int) (ha:Sm 63 a) (hb:Sm 63 b) (hc:Sm 63 c):du a b c=if c=0 then (0,1) else dS ((a*b).fdiv c):=by
 unfold du;have hab:=ha.mul hb;rw[WI.au (ha.lim (by decide)) (hb.lim (by decide))];by_cases h:c=0
 ·subst h;rw[if_pos rfl,WI.ub _ (hab.lim (by decide))];exact ms _ _ (by decide)
 ·rw[if_neg h];exact rd _ _ (hab.mono (by decide)) (hc.mono (by decide)) h
theorem kz (a b c:Int) (ha:Sm 63 a) (hb:Sm 63 b) (hc:Sm 63 c):cn a b c=if c=0 then (0,1) else dS (-((-(a*b)).fdiv c)):=by
 unfold cn;have hab:=ha.mul hb;rw[WI.au (ha.lim (by decide)) (hb.lim (by decide))];by_cases h:c=0
 ·subst h;rw[if_pos rfl];unfold dh;rw[WI.of_neg (hab.lim (by decide)),WI.ub _ (hab.neg.lim (by decide))];exact ms _ _ (by decide)
 ·rw[if_neg h];exact uM _ _ (hab.mono (by decide)) (hc.mono (by decide)) h
theorem tm (a b:Int) (ha:a.natAbs<lim) (hb:b.natAbs<lim):fitV (WI.of a) (WI.of b)=if b≤0 then 1 else 0:=by
 have h1:(WI.of a).ov=false:=by unfold WI.ov;rw[WI.of_v ha];rfl
 have h2:(WI.of b).ov=false:=by unfold WI.ov;rw[WI.of_v hb];rfl
 unfold fitV;rw[h1,h2,WI.di hb]
 have e:b.sign≤0↔b≤0:=by
  constructor
  ·intro h;by_cases h3:0<b
   ·rw[Int.sign_eq_one_of_pos h3] at h;omega
   ·omega
  ·intro h;rcases Int.lt_or_eq_of_le h with h3|h3
   ·rw[Int.sign_eq_neg_one_of_neg h3];decide
   ·rw[h3];decide
 simp[e]
theorem jL (a b:Int) (ha:Sm 1000 a) (hb:Sm 1000 b) (h0:0<b):floorV (WI.of a) (WI.of b)=dS (a.fdiv b):=by
 have e:fitV (WI.of a) (WI.of b)=0:=by rw[tm a b (ha.lim (by decide)) (hb.lim (by decide)),if_neg (by omega)]
 unfold floorV;rw[e,if_neg (by decide)];exact rd a b ha hb (by omega)
theorem jp (a b:Int) (ha:Sm 1000 a) (hb:Sm 1000 b) (h0:0<b):bP (WI.of a) (WI.of b)=dS (-((-a).fdiv b)):=by
 have e:fitV (WI.of a) (WI.of b)=0:=by rw[tm a b (ha.lim (by decide)) (hb.lim (by decide)),if_neg (by omega)]
 unfold bP;rw[e,if_neg (by decide)];exact uM a b ha hb (by omega)
theorem i8 (a b:Int) (ha:Sm 990 a) (hb:Sm 990 b) (h0:0<b):bR (WI.of a) (WI.of b)=dS ((2*a+b).fdiv (2*b)):=by
 have e:fitV (WI.of a) (WI.of b)=0:=by rw[tm a b (ha.lim (by decide)) (hb.lim (by decide)),if_neg (by omega)]
 unfold bR;rw[e,if_neg (by decide)];rw[WI.ce (ha.lim (by decide)) (ha.lim (by decide)),WI.ce ((ha.add ha).lim (by decide)) (hb.lim (by decide)),WI.ce (hb.lim (by decide)) (hb.lim (by decide))];rw[show a+a+b=2*a+b by omega,show b+b=2*b by omega];refine jL _ _ ?_ ?_ (by omega)
 ·rw[show 2*a+b=a+a+b by omega];exact((ha.add ha).add (hb.mono (by decide))).mono (by decide)
 ·rw[show 2*b=b+b by omega];exact(hb.add hb).mono (by decide)
theorem Fq (m r:Nat) (hm:m≤9223372036854775807) (hr:r=up m) (w:World) :
  Calls Tryz.prog 68 #[.int .i64 (m:Int)] w fun e w'=>e = .returned (.int .i64 (r:Int))∧Below w.heap.size w w':=by
 have h:=Fr (m:Int) (by omega) (by omega) w
 have h3:rt m<9223372036854775807:=by
  have:=xo m 3037000500 (by omega);omega
 rw[show max 0 (m:Int)=(m:Int) by omega,tK m (fB (by omega)) h3] at h;rw[hr];exact h
def WI.shl (x:WI) (k:Int):WI:=match x.v with
 | none=>WI.over
 | some z=>if z=0 then x else if 0≤k then (if 1023<k then WI.over else WI.of (z*((2^k.toNat:Nat):Int))) else WI.of (z.fdiv ((2^(-k).toNat:Nat):Int))
end Go.Proofs.YtnoidlacjiafdaaGreat
