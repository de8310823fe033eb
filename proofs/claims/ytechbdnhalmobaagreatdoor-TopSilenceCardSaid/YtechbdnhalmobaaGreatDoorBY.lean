/- Walks. -/
import Derived.Test.YtechbdnhalmobaaGreatDoorBX
import Derived.Deep.LoopGhost
import Derived.Deep.CutBlock
import Derived.Deep.Cut
open Go.Proofs.Tryz
set_option maxRecDepth 100000
set_option maxHeartbeats 16000000
namespace Go.Proofs.YtechbdnhalmobaaGreatDoor
set_option linter.unusedSimpArgs false
set_option linter.unusedVariables false
open Go.RowKit
theorem az{P:Program}{e:Func}{R:Ending->World->Prop}{a:Act}{w:World}{p u:Tmp}{b:TypeId}{g:Nat}(n:Nat)(cs:Array Value)(v:Value){d:TypeDesc}(h:e.results=#[.cell p b,.tmp u])(c:a.defers=[])(l:a.tmps.getD p undef=.pointer (some ⟨g,0,none⟩))(i:a.tmps.getD u undef=v)(o:P.underlying b=some d)(j:d.isRow=true)(k:(P.info? b).map (·.size)=some n)(f:w.row? g 0 n=some cs)(m:R (.returned (.tuple #[.agg cs,v])) w):bodyPost P e R .ret a w:=by
 refine bodyPost_ret (v:=.tuple #[.agg cs,v]) ?_ c m;rw[results_cell_tmp h,l,i];simp[asAddr,Result.andThen,run_loadVar_row? w g 0 n b cs d o j k f]
abbrev z5:Array Value:=#[.int .i64 0,.int .i64 0,.int .i64 0,.int .i64 0,.int .i64 0]
def eC(P:Program)(ty:TypeId):Bool:=match P.underlying ty with|some d=>d.isRow|none=>false
theorem rT{P:Program}{i:Func}{R:Ending->World->Prop}{a:Act}{w:World}{p u:Tmp}{c:TypeId}{g:Nat}(n:Nat)(f:Array Value)(v:Value)(m:R (.returned (.tuple #[.agg f,v])) w)(h:i.results=#[.cell p c,.tmp u]:=by rfl)(e:a.defers=[]:=by rfl)(hp:a.tmps.getD p undef=.pointer (some ⟨g,0,none⟩):=by rfl)(k:a.tmps.getD u undef=v:=by rfl)(b:eC P c=true:=by kernel_rfl)(l:(P.info? c).map (·.size)=some n:=by kernel_rfl)(j:w.row? g 0 n=some f:=by first|exact rc5|exact rc6|exact rc3):bodyPost P i R .ret a w:=by
  unfold eC at b;split at b
  · rename_i d o;exact az n f v h e hp k o b l j m
  · cases b
theorem CJ:(rowW 16 0).setIfInBounds 0 (.int .u64 1)=rowW 16 1:=kT 1 (by decide)
theorem div_over(x y:WI)(h:x.ov=true∨y.ov=true)(w:World):zR 154 #[.agg x.cells,.agg y.cells] w (.tuple #[.agg (x.div y).1.cells,.int .i64 (x.div y).2]):=by
 rw[WI.div_over x y h];have E:=Lh WI.of_0;cases hx:x.ov with
 | true=>
  clear h;go_enter func154,ntmps154;go_wp2_with fail;exact az 18 (cellsI false false 0) (.int .i64 2) rfl rfl rfl rfl underlying153 rfl aE (by go_simp) ⟨by rw[E.out],ae⟩
 | false=>
  have a:y.ov=true:=by rcases h with h|h<;>simp_all
  clear h;go_enter func154,ntmps154;go_wp2_with fail;exact az 18 (cellsI false false 0) (.int .i64 2) rfl rfl rfl rfl underlying153 rfl aE (by go_simp) ⟨by rw[E.out],ae⟩
theorem div_zero(x y:WI)(b:x.ov=false)(a:y.ov=false)(h:y.sz=0)(w:World):zR 154 #[.agg x.cells,.agg y.cells] w (.tuple #[.agg (x.div y).1.cells,.int .i64 (x.div y).2]):=by
 rw[WI.div_zero x y b a h];have E:=Lh WI.of_0;have c:eqW y.sz 0=true:=by rw[eD _ y.bC];simp[h]
 clear h;go_enter func154,ntmps154;go_wp2_with fail;exact az 18 (cellsI false false 0) (.int .i64 1) rfl rfl rfl rfl underlying153 rfl aE (by go_simp) ⟨by rw[E.out],ae⟩
theorem div_some(x y:WI)(I:x.ov=false)(G:y.ov=false)(h:y.sz≠0)(w:World):zR 154 #[.agg x.cells,.agg y.cells] w (.tuple #[.agg (x.div y).1.cells,.int .i64 (x.div y).2]):=by
 rw[WI.div_some x y I G h];have L:eqW y.sz 0=false:=by rw[eD _ y.bC];simp[h]
 obtain⟨Q,z⟩:∃Q,Q=x.sz/y.sz:=⟨_,rfl⟩;obtain⟨R,v⟩:∃R,R=x.sz%y.sz:=⟨_,rfl⟩;have o:Q<lim:=by rw[z];exact Nat.lt_of_le_of_lt (Nat.div_le_self _ _) x.jX
 have k:Q<W16:=Nat.lt_of_lt_of_le o mB;have l:Q+1<W16:=by have:=pP;have:=dP;omega
 have r:R<W16:=by rw[v];exact Nat.lt_of_le_of_lt (Nat.mod_le _ _) x.bC
 have j:=eD R r;rw[<-z,<-v];have HQ:=Lh z;have E:=Lh v;have B:=Lh h;have A:Hid (Q<W16/\Q+1<W16):=⟨k,l⟩;have J:=CJ;clear z v o k l r h;cases hb:(x.ng != y.ng) with
 | false=>
  have C:(!x.ng==y.ng)=false:=by rw[<-hb];cases x.ng<;>cases y.ng<;>rfl
  have a:(x.ng==y.ng)=true:=by revert hb;cases x.ng<;>cases y.ng<;>simp
  clear j;go_enter func154,ntmps154;go_wp2_with fail;refine(ji _ _ _ x.bC y.bC B.out).mono ?_;rintro e n ⟨rfl,c⟩;rw[<-HQ.out,<-E.out];have d:=c.size;(try simp at d);have f:=bq3 c (w.heap.size);go_wp2_with fail;refine(fL _ Q A.out.1 _).mono ?_;rintro e F ⟨rfl,a⟩;have b:=a.size;(try simp at b);have g:=bq3 a (w.heap.size);go_wp2_with fail;exact az 18 (WI.of (sgn false Q)).cells (.int .i64 0) rfl rfl rfl rfl underlying153 rfl aE (by go_simp) ⟨rfl,ae⟩
 | true=>
  have C:(!x.ng==y.ng)=true:=by rw[<-hb];cases x.ng<;>cases y.ng<;>rfl
  by_cases i:R=0
  ·have D:eqW R 0=true:=by rw[j];simp[i]
   have p:=Lh i;clear j i;go_enter func154,ntmps154;go_wp2_with fail;refine(ji _ _ _ x.bC y.bC B.out).mono ?_;rintro e n ⟨rfl,c⟩;rw[<-HQ.out,<-E.out];have d:=c.size;(try simp at d);have f:=bq3 c (w.heap.size);go_wp2_with fail;refine(fL _ Q A.out.1 _).mono ?_;rintro e F ⟨rfl,a⟩;have b:=a.size;(try simp at b);have g:=bq3 a (w.heap.size);go_wp2_with fail;all_goals exact az 18 (WI.of (sgn true Q)).cells (.int .i64 0) rfl rfl rfl rfl underlying153 rfl aE (by go_simp) ⟨by first|rfl|(rw[p.out];rfl),ae⟩
  ·have D:eqW R 0=false:=by rw[j];simp[i]
   have p:=Lh i;clear j i;go_enter func154,ntmps154;go_wp2_with fail;refine(ji _ _ _ x.bC y.bC B.out).mono ?_;rintro e n ⟨rfl,c⟩;rw[<-HQ.out,<-E.out];have d:=c.size;(try simp at d);have f:=bq3 c (w.heap.size);go_wp2_with fail;have H:¬(w.heap.size+1+1=n.heap.size):=by omega
   refine(zH _ _ _ _ Q 1 _ (.bT (((Blk.new _ _ _).alloc _).alloc _)) (.bT (Blk.new' _ _ _ (by simp)))).mono ?_;rintro e F ⟨rfl,a⟩;have b:=a.size;(try simp at b);have g:=bq3 a (w.heap.size);have s:=bq3 a (n.heap.size);go_wp2_with fail;refine(fL _ (Q+1) A.out.2 _).mono ?_;rintro e K ⟨rfl,m⟩;have q:=m.size;(try simp at q);have t:=bq3 m (w.heap.size);have u:=bq3 m (n.heap.size);go_wp2_with fail;all_goals exact az 18 (WI.of (sgn true (Q+1))).cells (.int .i64 0) rfl rfl rfl rfl underlying153 rfl aE (by go_simp) ⟨by simp,ae⟩
theorem yO(x y:WI)(w:World):zR 154 #[.agg x.cells,.agg y.cells] w (.tuple #[.agg (x.div y).1.cells,.int .i64 (x.div y).2]):=by
 cases hx:x.ov with
 | true=>exact div_over x y (.inl hx) w
 | false=>
  cases hy:y.ov with
  | true=>exact div_over x y (.inr hy) w
  | false=>
   by_cases h:y.sz=0
   ·exact div_zero x y hx hy h w
   ·exact div_some x y hx hy h w
def WI.cmp(x y:WI):Int×Bool:=
 match x.v,y.v with
 | some a,some b=>(if a<b then -1 else if b<a then 1 else 0,true)
 | _,_=>(0,false)
theorem WI.jl(x y:WI)(h:x.ov=true∨y.ov=true):x.cmp y=(0,false):=by
 unfold WI.cmp;unfold WI.ov at h;cases hx:x.v<;>cases hy:y.v<;>simp_all
theorem WI.nS(x:WI)(h:x.ng=true):x.sz≠0:=by
 unfold WI.ng at h;unfold WI.sz;cases hx:x.v<;>simp_all<;>omega
theorem WI.yU(x y:WI)(d:x.ov=false)(a:y.ov=false):x.cmp y=(if x.ng then (if y.ng then eE y.sz x.sz else -1) else (if y.ng then 1 else eE x.sz y.sz),true):=by
 have c:=x.nS;have b:=y.nS;unfold WI.cmp;rw[WI.br d,WI.br a];refine congrArg (fun t=>(t,true)) ?_;simp only[sgn,eE];cases hxn:x.ng with
 | true=>
  have f:=c hxn;cases hyn:y.ng with
  | true=>simp only[if_true];(repeat' split)<;>first|rfl|omega
  | false=>simp only[if_true,Bool.false_eq_true,if_false];(repeat' split)<;>first|rfl|omega
 | false=>
  cases hyn:y.ng with
  | true=>have e:=b hyn;simp only[if_true,Bool.false_eq_true,if_false];(repeat' split)<;>first|rfl|omega
  | false=>simp only[Bool.false_eq_true,if_false];(repeat' split)<;>first|rfl|omega
theorem yV(x y:WI)(w:World):zR 262 #[.agg x.cells,.agg y.cells] w (.tuple #[.int .i64 (x.cmp y).1,.bool (x.cmp y).2]):=by
 cases hx:x.ov with
 | true=>
  rw[WI.jl x y (.inl hx)];go_enter func262,ntmps262;go_wp2_with fail;go_ret2
  exact⟨rfl,ae⟩
 | false=>
  cases hy:y.ov with
  | true=>
   rw[WI.jl x y (.inr hy)];go_enter func262,ntmps262;go_wp2_with fail;go_ret2
   exact⟨rfl,ae⟩
  | false=>
   rw[WI.yU x y hx hy];cases hxn:x.ng with
   | true=>
    cases hyn:y.ng with
    | true=>
     go_enter func262,ntmps262;go_wp2_with fail;refine(kD _ _ _ _ y.sz x.sz _ y.bC x.bC (.da (Blk.new' _ _ _ (by simp))) (.da ((Blk.new _ _ _).alloc _))).mono ?_;rintro e f ⟨rfl,a⟩;have b:=a.size;(try simp at b);have c:=bq a (w.heap.size);have d:=bq a (w.heap.size+1);go_wp2_with fail;go_ret2
     exact⟨rfl,ae⟩
    | false=>
     go_enter func262,ntmps262;go_wp2_with fail;go_ret2
     exact⟨rfl,ae⟩
   | false=>
    cases hyn:y.ng with
    | true=>
     go_enter func262,ntmps262;go_wp2_with fail;go_ret2
     exact⟨rfl,ae⟩
    | false=>
     go_enter func262,ntmps262;go_wp2_with fail;refine(kD _ _ _ _ x.sz y.sz _ x.bC y.bC (.da ((Blk.new _ _ _).alloc _)) (.da (Blk.new' _ _ _ (by simp)))).mono ?_;rintro e f ⟨rfl,a⟩;have b:=a.size;(try simp at b);have c:=bq a (w.heap.size);have d:=bq a (w.heap.size+1);go_wp2_with fail;go_ret2
     exact⟨rfl,ae⟩
def WI.i64(x:WI):Int×Bool:=
 match x.v with
 | some a=>if -9223372036854775808<=a/\a<=9223372036854775807 then (a,true) else (0,false)
 | none=>(0,false)
theorem WI.qV(x:WI)(h:x.ov=true):x.i64=(0,false):=by
 unfold WI.i64;unfold WI.ov at h;cases hx:x.v<;>simp_all
theorem WI.mE(x:WI)(h:x.ov=false):x.i64=if x.sz<=9223372036854775807∨(x.sz=9223372036854775808/\x.ng=true) then (sgn x.ng x.sz,true) else (0,false):=by
 have a:=x.nS;unfold WI.i64;rw[WI.br h]
 have e:(-9223372036854775808<=sgn x.ng x.sz/\sgn x.ng x.sz<=9223372036854775807)↔(x.sz<=9223372036854775807∨(x.sz=9223372036854775808/\x.ng=true)):=by
  unfold sgn;cases hn:x.ng with
  | true=>
   have:=a hn;simp only[if_true,and_true];omega
  | false=>simp only[Bool.false_eq_true,if_false,and_false,or_false];omega
 simp only[e]
@[simp] theorem WI.FP(x : WI)(h : 2 < x.cells.size):x.cells[2]=.int .u64 (wd x.sz 0):=by
  have a:x.cells[2+0]? = _:=x.iJ 0 (by decide);exact cO a h
theorem uY(N:Nat)(h:N<18446744073709551616):wd N 0=(N:Int):=by
 unfold wd wdn;rw[Nat.mul_zero,Nat.pow_zero,Nat.div_one];omega
theorem um(x:WI)(w:World):zR 198 #[.agg x.cells] w (.tuple #[.int .i64 x.i64.1,.bool x.i64.2]):=by
 have b:=Lh x.bC;cases ho:x.ov with
 | true=>
  rw[WI.qV x ho];go_enter func198,ntmps198;go_wp2_with fail;go_ret2
  exact⟨rfl,ae⟩
 | false=>
  rw[WI.mE x ho];by_cases m:64<bl x.sz
  ·have i:¬x.sz<18446744073709551616:=fun h=>by have:=(cE x.sz 64).2 h;omega
   rw[if_neg (by omega)];have u:(64:Int)<(bl x.sz:Int):=by omega
   clear i m;go_enter func198,ntmps198;go_wp2_with (go_at_call 263;refine(eH _ _ x.sz _ b.out (.da (Blk.new _ _ _))).mono ?_;rintro e d ⟨rfl,rfl⟩)
   go_ret2
   exact⟨rfl,ae⟩
  ·have a:x.sz<18446744073709551616:=(cE x.sz 64).1 (by omega);have u:(bl x.sz:Int)<=64:=by omega
   obtain⟨N,g⟩:∃N,N=x.sz:=⟨_,rfl⟩;have y:wd x.sz 0=(N:Int):=by rw[g];exact uY _ a
   rw[<-g] at a ⊢;have s:=Lh g;clear g m;by_cases f:9223372036854775808<N
   ·rw[if_neg (by omega)];have j:(9223372036854775808:Int)<(N:Int):=by omega
    clear a;go_enter func198,ntmps198;go_wp2_with (go_at_call 263;refine(eH _ _ x.sz _ b.out (.da (Blk.new _ _ _))).mono ?_;rintro e d ⟨rfl,rfl⟩)
    go_ret2
    exact⟨rfl,ae⟩
   ·by_cases c:N=9223372036854775808
    ·cases hn:x.ng with
     | true=>
      rw[if_pos (.inr ⟨c,rfl⟩)];have j:IntKind.u64.wrap (-(N:Int))=(N:Int):=by rw[IntKind.wrap_u64];omega
      have l:IntKind.i64.wrap (N:Int)=-(N:Int):=by rw[IntKind.wrap_i64];omega
      have q:¬9223372036854775808<N:=f;have k:(N:Int)=9223372036854775808:=by omega
      have o:=Lh c;have t:(N:Int)<=9223372036854775808:=by omega
      clear a c;go_enter func198,ntmps198;go_wp2_with (go_at_call 263;refine(eH _ _ x.sz _ b.out (.da (Blk.new _ _ _))).mono ?_;rintro e d ⟨rfl,rfl⟩)
      have n:wrap64 (IntKind.u64.wrap (-9223372036854775808))=-9223372036854775808:=by rw[IntKind.wrap_u64];unfold wrap64;omega
      go_ret2
      exact⟨by rw[o.out,n];rfl,ae⟩
     | false=>
      rw[if_neg (by simp;omega)];have k:(N:Int)=9223372036854775808:=by omega
      clear a c;go_enter func198,ntmps198;go_wp2_with (go_at_call 263;refine(eH _ _ x.sz _ b.out (.da (Blk.new _ _ _))).mono ?_;rintro e d ⟨rfl,rfl⟩)
      go_ret2
      exact⟨rfl,ae⟩
    ·rw[if_pos (.inl (by omega))];have q:¬9223372036854775808<N:=f;have k:¬N=9223372036854775808:=c;have r:¬(N:Int)=9223372036854775808:=by omega
     have t:(N:Int)<=9223372036854775808:=by omega
     cases hn:x.ng with
     | true=>
      have p:N≠0:=by rw[s.out];exact x.nS hn
      obtain⟨Q,v⟩:∃Q,Q=18446744073709551616-N:=⟨_,rfl⟩;have j:IntKind.u64.wrap (-(N:Int))=(Q:Int):=by rw[IntKind.wrap_u64];omega
      have l:IntKind.i64.wrap (Q:Int)=-(N:Int):=by rw[IntKind.wrap_i64];omega
      clear a c f p v;go_enter func198,ntmps198;go_wp2_with (go_at_call 263;refine(eH _ _ x.sz _ b.out (.da (Blk.new _ _ _))).mono ?_;rintro e d ⟨rfl,rfl⟩)
      go_ret2
      exact⟨rfl,ae⟩
     | false=>
      have l:IntKind.i64.wrap (N:Int)=(N:Int):=by rw[IntKind.wrap_i64];omega
      clear a c f;go_enter func198,ntmps198;go_wp2_with (go_at_call 263;refine(eH _ _ x.sz _ b.out (.da (Blk.new _ _ _))).mono ?_;rintro e d ⟨rfl,rfl⟩)
      go_ret2
      exact⟨rfl,ae⟩
def WI.sqrt(x:WI):WI×Int:=
 match x.v with
 | some a=>if a<0 then (WI.of 0,1) else (WI.of (rt a.toNat:Nat),0)
 | none=>(WI.of 0,2)
theorem WI.nC(x:WI)(h:x.ov=true):x.sqrt=(WI.of 0,2):=by
 unfold WI.sqrt;unfold WI.ov at h;cases hx:x.v<;>simp_all
theorem WI.qc(x:WI)(h:x.ov=false)(a:x.ng=true):x.sqrt=(WI.of 0,1):=by
 have:=x.nS a;unfold WI.sqrt;rw[WI.br h];simp only[sgn,a,if_true];rw[if_pos (by omega)]
theorem WI.iR(x:WI)(h:x.ov=false)(a:x.ng=false):x.sqrt=(WI.of (rt x.sz:Nat),0):=by
 unfold WI.sqrt;rw[WI.br h];simp only[sgn,a,Bool.false_eq_true,if_false];rw[if_neg (by omega)];rfl
theorem vh(x:WI)(h:x.ov=true∨x.ng=true∨x.sz=0)(w:World):zR 261 #[.agg x.cells] w (.tuple #[.agg x.sqrt.1.cells,.int .i64 x.sqrt.2]):=by
 have E:=Lh WI.of_0;cases ho:x.ov with
 | true=>
  rw[WI.nC x ho];clear h;go_enter func261,ntmps261;go_wp2_with fail;exact az 18 (cellsI false false 0) (.int .i64 2) rfl rfl rfl rfl underlying153 rfl aE (by go_simp) ⟨by rw[E.out],ae⟩
 | false=>
  cases hn:x.ng with
  | true=>
   rw[WI.qc x ho hn];clear h;go_enter func261,ntmps261;go_wp2_with fail;exact az 18 (cellsI false false 0) (.int .i64 1) rfl rfl rfl rfl underlying153 rfl aE (by go_simp) ⟨by rw[E.out],ae⟩
  | false=>
   have a:x.sz=0:=by rw[ho,hn] at h;simpa using h
   rw[WI.iR x ho hn];have c:eqW x.sz 0=true:=by rw[eD _ x.bC];simp[a]
   have b:Hid (x.cells=(WI.of (rt x.sz:Nat)).cells):=by
    show _=_;rw[a,show((rt 0:Nat):Int)=0 from rfl,WI.of_0,x.dc,hn,ho,a]
   clear h a;go_enter func261,ntmps261;go_wp2_with fail;exact az 18 x.cells (.int .i64 0) rfl rfl rfl rfl underlying153 rfl aE (by go_simp) ⟨by rw[b.out],ae⟩
theorem vg(x:WI)(ho:x.ov=false)(hn:x.ng=false)(h0:x.sz≠0)(w:World):zR 261 #[.agg x.cells] w (.tuple #[.agg x.sqrt.1.cells,.int .i64 x.sqrt.2]):=by
 rw[WI.iR x ho hn];have hq:eqW x.sz 0=false:=by rw[eD _ x.bC];simp[h0]
 have W:=Lh x.bC;have b4:=(iE x.sz).2 x.jX;obtain⟨b,hb⟩:∃b,b=bl x.sz:=⟨_,rfl⟩;obtain⟨k,hk⟩:∃k,k=(b+1)/2:=⟨_,rfl⟩;have b0:k<=512:=by omega
 have k1:wrap64 ((b:Int)+1)=(b:Int)+1:=by unfold wrap64;omega
 have k2:((b:Int)+1).tdiv 2=(k:Int):=by rw[Int.tdiv_eq_ediv_of_nonneg (by omega)];omega
 have k3:((b:Int)+1)/2=(k:Int):=by omega
 have k4:(b:Int)<=1023:=by omega
 have HF:=Lh (i7 x.sz k (by omega))
 have c1:Hid (2^k<lim):=by
  have:∀n,n=1023->2^k<lim:=fun n hn=>by rw[pE n hn];exact Nat.pow_lt_pow_right (by decide) (by omega)
  exact this 1023 rfl
 have c0:Hid (k<1024):=by show k<1024;omega
 have b7:=Lh hb;have H0:=Lh h0;have r1:=CJ;clear b4 hb hk b0 h0;go_enter func261,ntmps261;go_wp2_with fail;refine(eH _ _ x.sz _ W.out (.da (((Blk.new _ _ _).alloc _).alloc _))).mono ?_;rintro e w' ⟨rfl,rfl⟩;rw[<-b7.out];go_wp2_with fail;refine(E9 _ _ 1 k _ c0.out (.bT (Blk.new' _ _ _ (by simp)))).mono ?_;rintro e u ⟨rfl,s⟩;rw[Nat.one_mul];have G:Hid (Blk u w.heap.size x.cells 153):=(((Blk.new _ _ _).alloc _).alloc _).keep s;have v:Hid (Blk u (w.heap.size+1) (cellsI false false 0) 153):=((Blk.new' _ _ _ (by simp)).alloc _).keep s;have i:Hid (zB w u):=ae;have K:Hid (w.heap.size+1+1+1<=u.heap.size):=by have:=s.size;simp at this;exact this
 clear s;go_upto_block 2 with fail
 obtain⟨g,hg⟩:∃g,g=u.heap.size:=⟨_,rfl⟩;have I:Hid (Blk (u.alloc (.cells (rowW 16 (2^k)) 151)) g (rowW 16 (2^k)) 151):=by rw[hg];exact Blk.new _ _ _
 replace G:=Lh (G.out.alloc (.cells (rowW 16 (2^k)) 151));replace v:=Lh (v.out.alloc (.cells (rowW 16 (2^k)) 151))
 have d0:w.heap.size+1<g:=by
  have:=v.out.lt;have h2:=i.out.size;rw[hg];have L:w.heap.size+1+1+1<=u.heap.size:=K.out;omega
 replace i:=Lh (i.out.alloc i.out.size (.cells (rowW 16 (2^k)) 151));simp only[<-hg];generalize u.alloc (.cells (rowW 16 (2^k)) 151)=w2 at *;clear hg K;go_wp2_with fail;go_loopg [6,7,8,9] (2^k) (fun X _ _ _ _ wx=>Hid (0<X/\X<lim/\x.sz<(X+1)*(X+1))/\Hid (zB w wx)/\Hid (Blk wx w.heap.size x.cells 153)/\Hid (Blk wx (w.heap.size+1) (cellsI false false 0) 153)/\Hid (Blk wx g (rowW 16 X) 151))
 case atStart=>exact⟨⟨Nat.two_pow_pos _,c1.out,HF.out⟩,i,G,v,I⟩
 case round=>
  clear i G v I;obtain⟨V,i,G,v,I⟩:=hrel;obtain⟨Y,hY⟩:∃Y,Y=(gk+x.sz/gk)/2:=⟨_,rfl⟩;obtain⟨S,P⟩:∃S,S=gk+x.sz/gk:=⟨_,rfl⟩;have E:=V.out.1
  have C:S<W16:=by
   have h1:=V.out.2.1;have h2:=x.jX;have L:=Nat.div_le_self x.sz gk;have h4:=pP;rw[P];omega
  have y:Y<W16:=by rw[hY,<-P];omega
  have B:gk<W16:=Nat.lt_of_lt_of_le V.out.2.1 mB;have j:=ku (N:=x.sz) E;have l:=fun h=>ko (N:=x.sz) E V.out.2.2 h;rw[<-hY] at j l
  have Q:0<Y:=by
   rcases Nat.eq_zero_or_pos Y with h|h
   ·rw[h] at j;have:=H0.out;omega
   ·exact h
  have HS:=Lh P;have HY:Hid (Y=S/2):=by show Y=_;rw[hY,P]
  have J:Hid (S<W16/\Y<W16/\gk<W16/\gk≠0):=⟨C,y,B,by omega⟩;have D:=Lh l;have m:Hid (0<Y/\x.sz<(Y+1)*(Y+1)):=⟨Q,j⟩;have r0:wr.row? w.heap.size 2 16=some (rowW 16 x.sz):=by rw[G.out.row? 2 16 (by simp)];simp
  have rX:wr.row? g 0 16=some (rowW 16 gk):=I.out.row?_all 16 (by simp);have tX:wr.fits g 16=true:=I.out.fits 16 (by simp);have t1:wr.fits (w.heap.size+1) 18=true:=v.out.fits 18 (by simp);have z0:=I.out.lt;have y0:w.heap.size<wr.heap.size:=by omega
  have y1:w.heap.size+1<wr.heap.size:=by omega
  clear hY P E C y B j l Q;go_wp2_with fail;refine(ji x.sz gk _ W.out J.out.2.2.1 J.out.2.2.2).mono ?_;rintro e w3 ⟨rfl,d⟩;have U:=d.size;(try simp at U);have b8:=bq d (w.heap.size);have b3:=bq d (w.heap.size+1);have a2:=bq d (g);have a1:=Lh (I.out.keep d);have d1:¬(g=w3.heap.size):=by omega
  have c5:¬(g=w3.heap.size+1):=by omega
  go_wp2_with fail;refine(zH _ _ _ _ gk (x.sz/gk) _ (.bT ((a1.out.alloc _).alloc _)) (.bT ((Blk.new _ _ _).alloc _))).mono ?_;rintro e o ⟨rfl,f⟩;rw[<-HS.out];have T:=f.size;(try simp at T);have a5:=bq2 f (w.heap.size);have a8:=bq f (g);have a9:=Lh (((a1.out.alloc _).alloc _).keep f);have c2:¬(g=o.heap.size):=by omega
  have c4:¬(w.heap.size+1=o.heap.size):=by omega
  go_wp2_with fail;refine(yN _ _ S 1 _ J.out.1 (by omega) (.bT (Blk.new _ _ _))).mono ?_;rintro e w5 ⟨rfl,c⟩;rw[Nat.pow_one,<-HY.out];have M:=c.size;(try simp at M);have a3:=bq2 c (w.heap.size);have b6:=bq c (o.heap.size);have a4:=bq c (g);have b5:=Lh ((a9.out.alloc _).keep c);have F:=Lh (Blk.keep (Blk.new o (rowW 16 S) 151) c);have tS:w5.fits o.heap.size 16=true:=F.out.fits 16 (by simp);have pS:=F.out.put? 0 (rowW 16 Y) (by simp) (by simp)
  have O:Hid (Blk (w5.putRow o.heap.size 0 (rowW 16 Y)) o.heap.size (rowW 16 Y) 151):=by
   have:=F.out.aK 0 (rowW 16 Y);rw[dw _ _ (by simp)] at this;exact this
  have q:Hid (Blk (w5.putRow o.heap.size 0 (rowW 16 Y)) g (rowW 16 gk) 151):=b5.out.aC c2 0 _;go_wp2_with fail;refine(kD _ _ _ _ Y gk _ J.out.2.1 J.out.2.2.1 (.bT O.out) (.bT q.out)).mono ?_;rintro e H ⟨rfl,a⟩;have R:=a.size;(try simp at R);have a7:=bq2 a (w.heap.size);have c3:=bq a (o.heap.size);have a6:=bq a (g);have c9:H.row? o.heap.size 0 16=some (rowW 16 Y):=(O.out.keep a).row?_all 16 (by simp);have c8:H.row? g 0 16=some (rowW 16 gk):=(q.out.keep a).row?_all 16 (by simp);have d2:=(q.out.keep a).put? 0 (rowW 16 Y) (by simp) (by simp)
  have p:Hid (zB w H):=by
   have h1:=i.out.size;exact Lh (((((((((i.out).trans (d.mono h1)).alloc (by omega) _).alloc (by simp;omega) _).trans (f.mono (by simp;omega))).alloc (by omega) _).trans (c.mono (by simp;omega))) |> fun h=>(ar h (by omega) 0 (rowW 16 Y)).trans (a.mono (by simp;omega))))
  have b2:Hid (Blk H w.heap.size x.cells 153):=by
   have L:=G.out.keep d;have h4:=((L.alloc (.cells (rowW 16 (x.sz/gk)) 151)).alloc (.cells (rowW 16 (x.sz%gk)) 151)).keep f;have h5:=(h4.alloc (.cells (rowW 16 S) 151)).keep c;exact(h5.aC (by omega) 0 (rowW 16 Y)).keep a
  have t:Hid (Blk H (w.heap.size+1) (cellsI false false 0) 153):=by
   have L:=v.out.keep d;have h4:=((L.alloc (.cells (rowW 16 (x.sz/gk)) 151)).alloc (.cells (rowW 16 (x.sz%gk)) 151)).keep f;have h5:=(h4.alloc (.cells (rowW 16 S) 151)).keep c;exact(h5.aC (by omega) 0 (rowW 16 Y)).keep a
  have Z:=Lh (q.out.keep a);have z6:=Z.out.lt;by_cases r:gk<=Y
  ·have hc:=pK r;have b1:=Lh (D.out r);have c7:H.fits (w.heap.size+1) 18=true:=t.out.fits 18 (by simp);have c6:w.heap.size+1<H.heap.size:=t.out.lt;have A:=J.out.2.2.1;have b9:=Lh A;clear r A d f c a;go_wp2_with fail;refine(fL false gk b9.out _).mono ?_;rintro e w7 ⟨rfl,a0⟩;have p7:=(t.out.keep a0).put? 0 (WI.of (sgn false gk)).cells (by simp) (by simp);have r7:=cP p7 (n:=18) (by simp);go_wp2_with fail;exact az 18 (WI.of (sgn false gk)).cells (.int .i64 0) rfl rfl rfl rfl underlying153 rfl aE r7 ⟨by rw[b1.out];rfl,ar (p.out.trans (a0.mono p.out.size)) (by omega) _ _⟩
  ·have hc:eE Y gk=-1:=by unfold eE;rw[if_pos (by omega)]
   have z:Hid (Y<gk):=by show Y<gk;omega
   clear r d f c a;go_wp2_with fail;go_roundg Y
   case measure=>exact z.out
   case rel=>
    have h7:=Z.out.aK 0 (rowW 16 Y);rw[dw _ _ (by simp)] at h7;have h1:=p.out.size;exact⟨⟨m.out.1,by have:=V.out.2.1;have:=z.out;omega,m.out.2⟩,ar p.out (by omega) _ _,b2.out.aC (by omega) _ _,t.out.aC (by omega) _ _,h7⟩
theorem oR(x:WI)(w:World):zR 261 #[.agg x.cells] w (.tuple #[.agg x.sqrt.1.cells,.int .i64 x.sqrt.2]):=by
 by_cases h:x.ov=true∨x.ng=true∨x.sz=0
 ·exact vh x h w
 ·exact vg x (by simpa using fun a=>h (.inl a)) (by simpa using fun a=>h (.inr (.inl a))) (fun a=>h (.inr (.inr a))) w
def aV(x:WI)(e:Int):Int×Int:=if e≠0 then (0,e) else if x.i64.2 then (x.i64.1,0) else (0,2)
def dh(x y:WI):WI×Int:=((x.neg.div y).1.neg,(x.neg.div y).2)
def dn(x:WI):Int×Int:=aV x.sqrt.1 x.sqrt.2
def fY(x:WI):Int×Int:=aV (if x.sqrt.2=0/\((x.sqrt.1.mul x.sqrt.1).cmp x).1<0 then x.sqrt.1.add (WI.of 1) else x.sqrt.1) x.sqrt.2
def du(a b c:Int):Int×Int:=aV (((WI.of a).mul (WI.of b)).div (WI.of c)).1 (((WI.of a).mul (WI.of b)).div (WI.of c)).2
def cn(a b c:Int):Int×Int:=aV (dh ((WI.of a).mul (WI.of b)) (WI.of c)).1 (dh ((WI.of a).mul (WI.of b)) (WI.of c)).2
def fitV(x y:WI):Int:=if x.ov=true∨y.ov=true then 2 else if y.sign<=0 then 1 else 0
def xY(x y:WI):Int×Int:=if fitV x y≠0 then (0,fitV x y) else aV (x.div y).1 (x.div y).2
def bP(x y:WI):Int×Int:=if fitV x y≠0 then (0,fitV x y) else aV (dh x y).1 (dh x y).2
def bR(x y:WI):Int×Int:=if fitV x y≠0 then (0,fitV x y) else xY ((x.add x).add y) (y.add y)
theorem eh(x:WI)(e:Int)(w:World):zR 151 #[.agg x.cells,e] w (.tuple #[.int .i64 (aV x e).1,.int .i64 (aV x e).2]):=by
 have E:Hid (aV x e=if e≠0 then (0,e) else if x.i64.2 then (x.i64.1,0) else (0,2)):=rfl;by_cases d:e=0
 ·subst d;cases hi:x.i64.2 with
  | true=>
   go_enter func151,ntmps151;go_wp2_with fail;refine(um _ _).mono ?_;rintro e g ⟨rfl,a⟩;rw[hi];have b:=a.size;(try simp at b);have c:=bq a (w.heap.size);go_wp2_with fail;go_ret2
   exact⟨by rw[E.out,hi];rfl,ae⟩
  | false=>
   go_enter func151,ntmps151;go_wp2_with fail;refine(um _ _).mono ?_;rintro e g ⟨rfl,a⟩;rw[hi];have b:=a.size;(try simp at b);have c:=bq a (w.heap.size);go_wp2_with fail;go_ret2
   exact⟨by rw[E.out,hi];rfl,ae⟩
 ·have f:=Lh d;have h:(e != 0)=true:=by simp[d]
  go_enter func151,ntmps151;go_wp2_with fail;go_ret2
  exact⟨by rw[E.out,if_pos f.out];rfl,ae⟩
theorem uS(x y:WI)(w:World):zR 152 #[.agg x.cells,.agg y.cells] w (.tuple #[.agg (dh x y).1.cells,.int .i64 (dh x y).2]):=by
 go_enter func152,ntmps152;go_wp2_with fail;go_cut [6,7] from 8 (fun B s wc=>∃g,B=.pointer (some ⟨g,0,none⟩)/\s=.int .i64 (x.neg.div y).2/\w.heap.size+1+1+1<=g/\g<wc.heap.size/\wc.row? g 0 18=some (x.neg.div y).1.cells/\wc.fits (w.heap.size+1+1) 18=true/\Hid (zB w wc))
 case first=>
  go_region_held3 (fun p=>p.row? w.heap.size 0 18=some x.cells/\p.row? (w.heap.size+1) 0 18=some y.cells) (go_simp)
   (first
    | (go_at_call 156;refine(qH _ _).mono ?_;rintro e j ⟨rfl,b⟩;have i:=b.size;(try simp at i);have k:=bq3 b (w.heap.size);(try (refine aI (bk b (w.heap.size+1+1+1)) ?_ ?_;(focus (first|omega|(simp;done)|(simp;omega)));rintro⟨y_w1_q1,c_w1_q1,f_w1_q1,r_w1_q1,t_w1_q1,p_w1_q1⟩)))
    | (go_at_call 154;refine(yO _ _ _).mono ?_;rintro e F ⟨rfl,a⟩;have h:=a.size;(try simp at h);have l:=bq3 a (w.heap.size);(try (refine aI (bk a (w.heap.size+1+1+1)) ?_ ?_;(focus (first|omega|(simp;done)|(simp;omega)));rintro⟨y_w2_q1,c_w2_q1,f_w2_q1,r_w2_q1,t_w2_q1,p_w2_q1⟩));(try (refine aI (bk a (j.heap.size)) ?_ ?_;(focus (first|omega|(simp;done)|(simp;omega)));rintro⟨y_w2_q2,c_w2_q2,f_w2_q2,r_w2_q2,t_w2_q2,p_w2_q2⟩;have f:¬(w.heap.size=j.heap.size):=(by omega);have c:¬(w.heap.size+1=j.heap.size):=(by omega);have d:¬(w.heap.size+1+1=j.heap.size):=(by omega)))))
  all_goals go_wp2_with fail
  all_goals go_meet
  all_goals exact⟨_,rfl,rfl,(by first|omega|(simp;done)|(simp;omega)|fail),(by first|omega|(simp;done)|(simp;omega)|fail),(by go_simp),(by go_simp),ae⟩
 case rest=>
  obtain⟨g,rfl,rfl,q,A,D,r,u⟩:=hcut;have t:w.heap.size+1+1<wc.heap.size:=by omega
  have E:Hid (((x.neg.div y).1.neg,(x.neg.div y).2)=dh x y):=rfl;go_wp2_with fail;refine(qH _ _).mono ?_;rintro e o ⟨rfl,m⟩;have z:o.fits (w.heap.size+1+1) 18=true:=by rw[Below.fits m _ _ t];exact r
  have C:o.put? (w.heap.size+1+1) 0 (x.neg.div y).1.neg.cells=some (o.putRow (w.heap.size+1+1) 0 (x.neg.div y).1.neg.cells):=put?_fits (by simpa using z) (by simp);have v:=cP C (n:=18) (by simp);go_wp2_with fail;exact az 18 (x.neg.div y).1.neg.cells (.int .i64 (x.neg.div y).2) rfl rfl rfl rfl underlying153 rfl aE v ⟨by rw[<-E.out],ae⟩
theorem zT(x:WI)(w:World):zR 299 #[.agg x.cells] w (.tuple #[.int .i64 (dn x).1,.int .i64 (dn x).2]):=by
 have E:Hid (dn x=aV x.sqrt.1 x.sqrt.2):=rfl;go_enter func299,ntmps299;go_wp2_with fail;refine(oR _ _).mono ?_;rintro e i ⟨rfl,c⟩;have d:=c.size;(try simp at d);have f:=bq c (w.heap.size);go_wp2_with fail;refine(eh _ _ _).mono ?_;rintro e h ⟨rfl,a⟩;have b:=a.size;(try simp at b);have g:=bq a (w.heap.size);go_wp2_with fail;go_ret2
 exact⟨by rw[E.out];rfl,ae⟩
theorem Ro(n:Int)(h : -9223372036854775808<=n)(g:n<=9223372036854775807)(w:World):zR 246 #[n] w (.int .i64 (dn (WI.of (max 0 n))).1):=by
 obtain⟨m,c⟩:∃m,m=max 0 n:=⟨_,rfl⟩;have b:Hid (-9223372036854775808<=m/\m<=9223372036854775807):=⟨by omega,by omega⟩;have f:max 0 n=m:=c.symm;rw[f];clear c h g;go_enter func246,ntmps246;go_wp2_with fail;refine(eg m b.out.1 b.out.2 _).mono ?_;rintro e i ⟨rfl,a⟩;go_wp2_with fail;refine(zT _ _).mono ?_;rintro e j ⟨rfl,d⟩;have k:=a.size;go_wp2_with fail;go_ret;exact⟨rfl,ae⟩
theorem CN:Hid (-9223372036854775808<=(1:Int)/\(1:Int)<=9223372036854775807):=⟨by decide,by decide⟩
theorem pV(x:WI)(w:World):zR 197 #[.agg x.cells] w (.tuple #[.int .i64 (fY x).1,.int .i64 (fY x).2]):=by
 have E:Hid (fY x=aV (if x.sqrt.2=0/\((x.sqrt.1.mul x.sqrt.1).cmp x).1<0 then x.sqrt.1.add (WI.of 1) else x.sqrt.1) x.sqrt.2):=rfl;obtain⟨r,H⟩:∃r,r=x.sqrt.1:=⟨_,rfl⟩;obtain⟨p,t⟩:∃p,p=x.sqrt.2:=⟨_,rfl⟩;rw[<-H,<-t] at E;have I:=Lh H;have C:=Lh t;clear H t;by_cases h:p=0/\((r.mul r).cmp x).1<0
 ·rw[if_pos h] at E;obtain⟨o,v⟩:=h;have T:=Lh o;have J:(p==0)=true:=by simp[o]
  have P:decide (((r.mul r).cmp x).1<0)=true:=decide_eq_true v;clear o;go_enter func197,ntmps197;go_wp2_with fail;refine(oR _ _).mono ?_;rintro e i ⟨rfl,f⟩;rw[<-I.out,<-C.out];have g:=f.size;(try simp at g);have l:=bq f (w.heap.size);go_wp2_with fail
  go_region_held3 (fun q=>q.row? w.heap.size 0 18=some x.cells/\q.row? i.heap.size 0 18=some r.cells) (go_simp)
   (first
    | (go_at_call 153;refine(cN _ _ _).mono ?_;rintro e M ⟨rfl,b⟩;have c:=b.size;(try simp at c);have k:=bq b (w.heap.size);have j:=bq b (i.heap.size))
    | (go_at_call 262;refine(yV _ _ _).mono ?_;rintro e L ⟨rfl,a⟩;have d:=a.size;(try simp at d);have n:=bq a (w.heap.size);have m:=bq a (i.heap.size)))
  all_goals have O:¬(w.heap.size=i.heap.size):=by omega
  all_goals go_wp2_with fail
  all_goals go_region_with
   (first
    | (go_at_call 86;refine(eg 1 CN.out.1 CN.out.2 _).mono ?_;rintro e Q ⟨rfl,s⟩;have z:=s.size;(try simp at z);have F:=bq s (w.heap.size);have D:=bq s (i.heap.size))
    | (go_at_call 155;refine(mV _ _ _).mono ?_;rintro e S ⟨rfl,u⟩;have y:=u.size;(try simp at y);have B:=bq u (w.heap.size);have G:=bq u (i.heap.size)))
  all_goals go_wp2_with fail
  all_goals (refine(eh _ _ _).mono ?_;rintro e K ⟨rfl,A⟩)
  all_goals go_wp2_with fail
  all_goals go_ret2
  all_goals exact⟨by rw[E.out];rfl,ae⟩
 ·rw[if_neg h] at E;have R:=Lh h;by_cases o:p=0
  ·have v:¬((r.mul r).cmp x).1<0:=fun v=>h ⟨o,v⟩;have P:decide (((r.mul r).cmp x).1<0)=false:=decide_eq_false v;have J:(p==0)=true:=by simp[o]
   clear h o;go_enter func197,ntmps197;go_wp2_with fail;refine(oR _ _).mono ?_;rintro e i ⟨rfl,f⟩;rw[<-I.out,<-C.out];have g:=f.size;(try simp at g);have l:=bq f (w.heap.size);go_wp2_with fail
   go_region_held3 (fun q=>q.row? w.heap.size 0 18=some x.cells/\q.row? i.heap.size 0 18=some r.cells) (go_simp)
    (first
     | (go_at_call 153;refine(cN _ _ _).mono ?_;rintro e M ⟨rfl,b⟩;have c:=b.size;(try simp at c);have k:=bq b (w.heap.size);have j:=bq b (i.heap.size))
     | (go_at_call 262;refine(yV _ _ _).mono ?_;rintro e L ⟨rfl,a⟩;have d:=a.size;(try simp at d);have n:=bq a (w.heap.size);have m:=bq a (i.heap.size)))
   all_goals go_wp2_with fail
   all_goals (refine(eh _ _ _).mono ?_;rintro e K ⟨rfl,A⟩)
   all_goals go_wp2_with fail
   all_goals go_ret2
   all_goals exact⟨by rw[E.out];rfl,ae⟩
  ·have J:(p==0)=false:=by simp[o]
   have N:¬p=0:=o;clear h o;go_enter func197,ntmps197;go_wp2_with fail;refine(oR _ _).mono ?_;rintro e i ⟨rfl,f⟩;rw[<-I.out,<-C.out];have g:=f.size;(try simp at g);have l:=bq f (w.heap.size);go_wp2_with fail
   go_region_held3 (fun q=>q.row? w.heap.size 0 18=some x.cells/\q.row? i.heap.size 0 18=some r.cells) (go_simp)
    (first
     | (go_at_call 153;refine(cN _ _ _).mono ?_;rintro e M ⟨rfl,b⟩;have c:=b.size;(try simp at c);have k:=bq b (w.heap.size);have j:=bq b (i.heap.size))
     | (go_at_call 262;refine(yV _ _ _).mono ?_;rintro e L ⟨rfl,a⟩;have d:=a.size;(try simp at d);have n:=bq a (w.heap.size);have m:=bq a (i.heap.size)))
   all_goals go_wp2_with fail
   all_goals (refine(eh _ _ _).mono ?_;rintro e K ⟨rfl,A⟩)
   all_goals go_wp2_with fail
   all_goals go_ret2
   all_goals exact⟨by rw[E.out];rfl,ae⟩
theorem Fr(n:Int)(h : -9223372036854775808<=n)(g:n<=9223372036854775807)(w:World):zR 150 #[n] w (.int .i64 (fY (WI.of (max 0 n))).1):=by
 obtain⟨m,c⟩:∃m,m=max 0 n:=⟨_,rfl⟩;have b:Hid (-9223372036854775808<=m/\m<=9223372036854775807):=⟨by omega,by omega⟩;have f:max 0 n=m:=c.symm;rw[f];clear c h g;go_enter func150,ntmps150;go_wp2_with fail;refine(eg m b.out.1 b.out.2 _).mono ?_;rintro e i ⟨rfl,a⟩;go_wp2_with fail;refine(pV _ _).mono ?_;rintro e j ⟨rfl,d⟩;have k:=a.size;go_wp2_with fail;go_ret;exact⟨rfl,ae⟩
theorem yd(a b c:Int)(m : -9223372036854775808<=a/\a<=9223372036854775807)(o : -9223372036854775808<=b/\b<=9223372036854775807)(l : -9223372036854775808<=c/\c<=9223372036854775807)(w:World):zR 83 #[a,b,c] w (.tuple #[.int .i64 (du a b c).1,.int .i64 (du a b c).2]):=by
 have E:Hid (du a b c=aV (((WI.of a).mul (WI.of b)).div (WI.of c)).1 (((WI.of a).mul (WI.of b)).div (WI.of c)).2):=rfl;have j:=Lh m;have n:=Lh o;have k:=Lh l;clear m o l;go_enter func83,ntmps83;go_wp2_with fail;refine(eg a j.out.1 j.out.2 _).mono ?_;rintro e v ⟨rfl,h⟩;have t:=h.size;go_wp2_with fail;refine(eg b n.out.1 n.out.2 _).mono ?_;rintro e B ⟨rfl,i⟩;have r:=i.size;go_wp2_with fail;refine(cN _ _ _).mono ?_;rintro e A ⟨rfl,f⟩;have u:=f.size;go_wp2_with fail;refine(eg c k.out.1 k.out.2 _).mono ?_;rintro e x ⟨rfl,d⟩;have q:=d.size;go_wp2_with fail;refine(yO _ _ _).mono ?_;rintro e z ⟨rfl,g⟩;have s:=g.size;go_wp2_with fail;refine(eh _ _ _).mono ?_;rintro e y ⟨rfl,p⟩;go_wp2_with fail;go_ret2
 exact⟨by rw[E.out];rfl,ae⟩
theorem sE(a b c:Int)(m : -9223372036854775808<=a/\a<=9223372036854775807)(o : -9223372036854775808<=b/\b<=9223372036854775807)(l : -9223372036854775808<=c/\c<=9223372036854775807)(w:World):zR 82 #[a,b,c] w (.tuple #[.int .i64 (cn a b c).1,.int .i64 (cn a b c).2]):=by
 have E:Hid (cn a b c=aV (dh ((WI.of a).mul (WI.of b)) (WI.of c)).1 (dh ((WI.of a).mul (WI.of b)) (WI.of c)).2):=rfl;have j:=Lh m;have n:=Lh o;have k:=Lh l;clear m o l;go_enter func82,ntmps82;go_wp2_with fail;refine(eg a j.out.1 j.out.2 _).mono ?_;rintro e v ⟨rfl,h⟩;have t:=h.size;go_wp2_with fail;refine(eg b n.out.1 n.out.2 _).mono ?_;rintro e B ⟨rfl,i⟩;have r:=i.size;go_wp2_with fail;refine(cN _ _ _).mono ?_;rintro e A ⟨rfl,f⟩;have u:=f.size;go_wp2_with fail;refine(eg c k.out.1 k.out.2 _).mono ?_;rintro e x ⟨rfl,d⟩;have q:=d.size;go_wp2_with fail;refine(uS _ _ _).mono ?_;rintro e z ⟨rfl,g⟩;have s:=g.size;go_wp2_with fail;refine(eh _ _ _).mono ?_;rintro e y ⟨rfl,p⟩;go_wp2_with fail;go_ret2
 exact⟨by rw[E.out];rfl,ae⟩
theorem oD(x y:WI)(w:World):zR 320 #[.agg x.cells,.agg y.cells] w (.int .i64 (fitV x y)):=by
 have E:Hid (fitV x y=if x.ov=true∨y.ov=true then 2 else if y.sign<=0 then 1 else 0):=rfl;cases hx:x.ov with
 | true=>
  go_enter func320,ntmps320;go_wp2_with fail;refine(gb _ _).mono ?_;rintro e n ⟨rfl,a⟩;rw[hx];have c:=a.size;(try simp at c);have g:=bq a (w.heap.size);have h:=bq a (w.heap.size+1);go_wp2_with fail;go_ret;exact⟨by rw[E.out,if_pos (.inl hx)];rfl,ae⟩
 | false=>
  cases hy:y.ov with
  | true=>
   go_enter func320,ntmps320;go_wp2_with fail;refine(gb _ _).mono ?_;rintro e n ⟨rfl,a⟩;rw[hx];have c:=a.size;(try simp at c);have g:=bq a (w.heap.size);have h:=bq a (w.heap.size+1);go_wp2_with fail;refine(gb _ _).mono ?_;rintro e q ⟨rfl,b⟩;rw[hy];have d:=b.size;(try simp at d);have i:=bq b (w.heap.size);have j:=bq b (w.heap.size+1);go_wp2_with fail;go_ret;exact⟨by rw[E.out,if_pos (.inr hy)];rfl,ae⟩
  | false=>
   have p:¬(x.ov=true∨y.ov=true):=by rw[hx,hy];simp
   rw[if_neg p] at E;clear p;by_cases o:y.sign<=0
   ·rw[if_pos o] at E;go_enter func320,ntmps320;go_wp2_with fail;refine(gb _ _).mono ?_;rintro e n ⟨rfl,a⟩;rw[hx];have c:=a.size;(try simp at c);have g:=bq a (w.heap.size);have h:=bq a (w.heap.size+1);go_wp2_with fail;refine(gb _ _).mono ?_;rintro e q ⟨rfl,b⟩;rw[hy];have d:=b.size;(try simp at d);have i:=bq b (w.heap.size);have j:=bq b (w.heap.size+1);go_wp2_with fail;refine(dX _ _).mono ?_;rintro e s ⟨rfl,f⟩;have k:=f.size;(try simp at k);have l:=bq f (w.heap.size);have m:=bq f (w.heap.size+1);go_wp2_with fail;go_ret;exact⟨by rw[E.out];rfl,ae⟩
   ·rw[if_neg o] at E;have r:0<y.sign:=by omega
    clear o;go_enter func320,ntmps320;go_wp2_with fail;refine(gb _ _).mono ?_;rintro e n ⟨rfl,a⟩;rw[hx];have c:=a.size;(try simp at c);have g:=bq a (w.heap.size);have h:=bq a (w.heap.size+1);go_wp2_with fail;refine(gb _ _).mono ?_;rintro e q ⟨rfl,b⟩;rw[hy];have d:=b.size;(try simp at d);have i:=bq b (w.heap.size);have j:=bq b (w.heap.size+1);go_wp2_with fail;refine(dX _ _).mono ?_;rintro e s ⟨rfl,f⟩;have k:=f.size;(try simp at k);have l:=bq f (w.heap.size);have m:=bq f (w.heap.size+1);go_wp2_with fail;go_ret;exact⟨by rw[E.out];rfl,ae⟩
theorem uy(x y:WI)(w:World):zR 278 #[.agg x.cells,.agg y.cells] w (.tuple #[.int .i64 (xY x y).1,.int .i64 (xY x y).2]):=by
 have E:Hid (xY x y=if fitV x y≠0 then (0,fitV x y) else aV (x.div y).1 (x.div y).2):=rfl;by_cases i:fitV x y=0
 ·rw[if_neg (by simpa using i)] at E;go_enter func278,ntmps278;go_wp2_with fail;refine(oD _ _ _).mono ?_;rintro e m ⟨rfl,a⟩;rw[i];have b:=a.size;(try simp at b);have d:=bq a (w.heap.size);have h:=bq a (w.heap.size+1);go_wp2_with fail;refine(yO _ _ _).mono ?_;rintro e r ⟨rfl,g⟩;have j:=g.size;(try simp at j);have k:=bq g (w.heap.size);have l:=bq g (w.heap.size+1);go_wp2_with fail;refine(eh _ _ _).mono ?_;rintro e q ⟨rfl,n⟩;go_wp2_with fail;go_ret2
  exact⟨by rw[E.out];rfl,ae⟩
 ·rw[if_pos i] at E;obtain⟨f,c⟩:∃f,f=fitV x y:=⟨_,rfl⟩;rw[<-c] at E i;have o:=Lh c;have p:(f != 0)=true:=by simp[i]
  clear c;go_enter func278,ntmps278;go_wp2_with fail;refine(oD _ _ _).mono ?_;rintro e m ⟨rfl,a⟩;rw[<-o.out];have b:=a.size;(try simp at b);have d:=bq a (w.heap.size);have h:=bq a (w.heap.size+1);go_wp2_with fail;go_ret2
  exact⟨by rw[E.out];rfl,ae⟩
theorem Ei(x y:WI)(w:World):zR 277 #[.agg x.cells,.agg y.cells] w (.tuple #[.int .i64 (bP x y).1,.int .i64 (bP x y).2]):=by
 have E:Hid (bP x y=if fitV x y≠0 then (0,fitV x y) else aV (dh x y).1 (dh x y).2):=rfl;by_cases i:fitV x y=0
 ·rw[if_neg (by simpa using i)] at E;go_enter func277,ntmps277;go_wp2_with fail;refine(oD _ _ _).mono ?_;rintro e m ⟨rfl,a⟩;rw[i];have b:=a.size;(try simp at b);have d:=bq a (w.heap.size);have h:=bq a (w.heap.size+1);go_wp2_with fail;refine(uS _ _ _).mono ?_;rintro e r ⟨rfl,g⟩;have j:=g.size;(try simp at j);have k:=bq g (w.heap.size);have l:=bq g (w.heap.size+1);go_wp2_with fail;refine(eh _ _ _).mono ?_;rintro e q ⟨rfl,n⟩;go_wp2_with fail;go_ret2
  exact⟨by rw[E.out];rfl,ae⟩
 ·rw[if_pos i] at E;obtain⟨f,c⟩:∃f,f=fitV x y:=⟨_,rfl⟩;rw[<-c] at E i;have o:=Lh c;have p:(f != 0)=true:=by simp[i]
  clear c;go_enter func277,ntmps277;go_wp2_with fail;refine(oD _ _ _).mono ?_;rintro e m ⟨rfl,a⟩;rw[<-o.out];have b:=a.size;(try simp at b);have d:=bq a (w.heap.size);have h:=bq a (w.heap.size+1);go_wp2_with fail;go_ret2
  exact⟨by rw[E.out];rfl,ae⟩
theorem DL(x y:WI)(w:World):zR 276 #[.agg x.cells,.agg y.cells] w (.tuple #[.int .i64 (bR x y).1,.int .i64 (bR x y).2]):=by
 have E:Hid (bR x y=if fitV x y≠0 then (0,fitV x y) else xY ((x.add x).add y) (y.add y)):=rfl;by_cases j:fitV x y=0
 ·rw[if_neg (by simpa using j)] at E;go_enter func276,ntmps276;go_wp2_with fail;refine(oD _ _ _).mono ?_;rintro e r ⟨rfl,a⟩;rw[j];have b:=a.size;(try simp at b);have g:=bq a (w.heap.size);have i:=bq a (w.heap.size+1);go_wp2_with fail
  go_region_held3 (fun q=>q.row? w.heap.size 0 18=some x.cells/\q.row? (w.heap.size+1) 0 18=some y.cells) (go_simp)
   (first
    | (go_at_call 155;refine(mV _ _ _).mono ?_;rintro e v ⟨rfl,h⟩;have k:=h.size;(try simp at k);have m:=bq h (w.heap.size);have n:=bq h (w.heap.size+1))
    | (go_at_call 278;refine(uy _ _ _).mono ?_;rintro e u ⟨rfl,d⟩;have l:=d.size;(try simp at l);have o:=bq d (w.heap.size);have p:=bq d (w.heap.size+1)))
  all_goals go_wp2_with fail
  all_goals go_ret2
  all_goals exact⟨by rw[E.out];rfl,ae⟩
 ·rw[if_pos j] at E;obtain⟨f,c⟩:∃f,f=fitV x y:=⟨_,rfl⟩;rw[<-c] at E j;have s:=Lh c;have t:(f != 0)=true:=by simp[j]
  clear c;go_enter func276,ntmps276;go_wp2_with fail;refine(oD _ _ _).mono ?_;rintro e r ⟨rfl,a⟩;rw[<-s.out];have b:=a.size;(try simp at b);have g:=bq a (w.heap.size);have i:=bq a (w.heap.size+1);go_wp2_with fail;go_ret2
  exact⟨by rw[E.out];rfl,ae⟩
def up(n:Nat):Nat:=if rt n*rt n<n then rt n+1 else rt n
theorem kP(n:Nat):n<=up n*up n/\(up n=0∨(up n-1)*(up n-1)<n):=by
 have h:=fJ n;unfold up;split
 ·rename_i b;exact⟨by omega,.inr (by rw[Nat.add_sub_cancel];exact b)⟩
 ·rename_i b;refine⟨by omega,?_⟩;rcases Nat.eq_zero_or_pos (rt n) with a|a
  ·exact .inl a
  ·right;have:(rt n-1)*(rt n-1)<rt n*rt n:=Nat.mul_lt_mul'' (by omega) (by omega);omega
theorem xp(n:Nat):rt n<=n:=by
 have h:=fJ n;rcases Nat.eq_zero_or_pos (rt n) with a|a
 ·omega
 ·have:rt n*1<=rt n*rt n:=Nat.mul_le_mul_left _ a;omega
theorem xo(n k:Nat)(h:n<k*k):rt n<k:=by
 have b:=fJ n;rcases Nat.lt_or_ge (rt n) k with a|a
 ·exact a
 ·have:=gP a;omega
theorem CD(n k:Nat)(h:n<=k*k):up n<=k:=by
 have ⟨a,b⟩:=kP n;rcases Nat.lt_or_ge k (up n) with c|c
 ·rcases b with b|b
  ·omega
  ·have:=gP (show k<=up n-1 by omega);omega
 ·exact c
def dS(q:Int):Int×Int:=if -9223372036854775808<=q/\q<=9223372036854775807 then (q,0) else (0,2)
theorem WI.xW(q:Int)(h:q.natAbs<lim):(WI.of q).i64=if -9223372036854775808<=q/\q<=9223372036854775807 then (q,true) else (0,false):=by
 unfold WI.i64;rw[WI.of_v h]
theorem fA(q:Int)(h:q.natAbs<lim):aV (WI.of q) 0=dS q:=by
 unfold aV dS;rw[WI.xW q h];simp only[ne_eq,not_true_eq_false,if_false];split<;>simp
theorem ms(x:WI)(e:Int)(h:e≠0):aV x e=(0,e):=by unfold aV;rw [if_pos h]
theorem fB{n:Nat}(h:n<18446744073709551616):n<lim:=nD h
theorem WI.po(n:Nat)(h:n<lim):(WI.of (n:Int)).sqrt=(WI.of (rt n:Nat),0):=by
 unfold WI.sqrt;rw[WI.of_v (by simpa using h)];simp only;rw[if_neg (by omega)];rfl
theorem uW(n:Nat)(h:n<lim):dn (WI.of (n:Int))=dS (rt n:Nat):=by
 unfold dn;rw[WI.po n h];exact fA _ (by have:=xp n;simp;omega)
theorem WI.DF(a b:Int)(d:a.natAbs<lim)(c:b.natAbs<lim):(WI.of a).cmp (WI.of b)=(if a<b then -1 else if b<a then 1 else 0,true):=by
 unfold WI.cmp;rw[WI.of_v d,WI.of_v c]
theorem tK(n:Nat)(h:n<lim)(f:rt n<9223372036854775807):fY (WI.of (n:Int))=(((up n:Nat):Int),0):=by
 unfold fY;rw[WI.po n h];have a:((rt n:Nat):Int).natAbs<lim:=by simpa using Nat.lt_of_le_of_lt (xp n) h
 have d:(((rt n:Nat):Int)*((rt n:Nat):Int)).natAbs<lim:=by
  rw[<-Int.natCast_mul,Int.natAbs_natCast];exact Nat.lt_of_le_of_lt (fJ n).1 h
 rw[WI.au a a,WI.DF _ _ d (by simpa using h)];have e:((rt n:Nat):Int)*((rt n:Nat):Int)=((rt n*rt n:Nat):Int):=(Int.natCast_mul _ _).symm;have c:=(fJ n).1;simp only[true_and];unfold up;by_cases b:rt n*rt n<n
 ·rw[if_pos b,if_pos (by rw[if_pos (by omega)];decide)];rw[WI.ce a (by have:=fB (n:=1) (by decide);simpa using this)];have:((rt n:Nat):Int)+1=((rt n+1:Nat):Int):=by omega
  rw[this,fA _ (by rw[Int.natAbs_natCast];exact fB (by omega))];unfold dS;rw[if_pos (by omega)]
 ·rw[if_neg b,if_neg (by rw[if_neg (by omega),if_neg (by omega)];decide)];rw[fA _ a];unfold dS;rw[if_pos (by omega)]
theorem rS(x:Int):x=sgn (decide (x<0)) x.natAbs:=by unfold sgn;by_cases h:x<0<;>simp [h]<;>omega
theorem rh(x c:Int)(a:c≠0):(x.fdiv c).natAbs<=x.natAbs+1:=by
 rw[rS x,rS c,qi _ _ _ _ (by omega),dr,<-rS x];have:=Nat.div_le_self x.natAbs c.natAbs;split<;>omega
theorem WI.pr(a b:Int)(d:a.natAbs<lim)(c:b.natAbs<lim)(e:b≠0):(WI.of a).div (WI.of b)=(WI.of (a.fdiv b),0):=by
 unfold WI.div;rw[WI.of_v d,WI.of_v c];simp only[e,if_false]
theorem WI.ub(a:Int)(b:a.natAbs<lim):(WI.of a).div (WI.of 0)=(WI.of 0,1):=by
 unfold WI.div;rw[WI.of_v b,WI.of_v (by simpa using dP)];simp
theorem tT{a:Int}(h:Sm 1000 a):a.natAbs+1<lim:=by
 have e:=h.lim (k:=1000) (by decide);have b:Sm 1001 (a+1)/\Sm 1001 (a-1):=⟨h.add (Sm.mono (j:=0) (by unfold Sm;decide) (by decide)),h.sub (Sm.mono (j:=0) (by unfold Sm;decide) (by decide))⟩;have d:=b.1.lim (by decide);have c:=b.2.lim (by decide);omega
theorem rd(a b:Int)(c:Sm 1000 a)(e:Sm 1000 b)(d:b≠0):aV ((WI.of a).div (WI.of b)).1 ((WI.of a).div (WI.of b)).2=dS (a.fdiv b):=by
 rw[WI.pr a b (c.lim (by decide)) (e.lim (by decide)) d];have:=rh a b d;have:=tT c;exact fA _ (by omega)
theorem uM(a b:Int)(c:Sm 1000 a)(e:Sm 1000 b)(d:b≠0):aV (dh (WI.of a) (WI.of b)).1 (dh (WI.of a) (WI.of b)).2=dS (-((-a).fdiv b)):=by
 unfold dh;rw[WI.of_neg (c.lim (by decide)),WI.pr (-a) b (c.neg.lim (by decide)) (e.lim (by decide)) d];have g:=rh (-a) b d;have f:=tT c.neg;rw[WI.of_neg (by omega)];exact fA _ (by omega)
theorem nX(a b c:Int)(f:Sm 63 a)(e:Sm 63 b)(g:Sm 63 c):du a b c=if c=0 then (0,1) else dS ((a*b).fdiv c):=by
 unfold du;have d:=f.mul e;rw[WI.au (f.lim (by decide)) (e.lim (by decide))];by_cases h:c=0
 ·subst h;rw[if_pos rfl,WI.ub _ (d.lim (by decide))];exact ms _ _ (by decide)
 ·rw[if_neg h];exact rd _ _ (d.mono (by decide)) (g.mono (by decide)) h
theorem kz(a b c:Int)(f:Sm 63 a)(e:Sm 63 b)(g:Sm 63 c):cn a b c=if c=0 then (0,1) else dS (-((-(a*b)).fdiv c)):=by
 unfold cn;have d:=f.mul e;rw[WI.au (f.lim (by decide)) (e.lim (by decide))];by_cases h:c=0
 ·subst h;rw[if_pos rfl];unfold dh;rw[WI.of_neg (d.lim (by decide)),WI.ub _ (d.neg.lim (by decide))];exact ms _ _ (by decide)
 ·rw[if_neg h];exact uM _ _ (d.mono (by decide)) (g.mono (by decide)) h
theorem tm(a b:Int)(i:a.natAbs<lim)(d:b.natAbs<lim):fitV (WI.of a) (WI.of b)=if b<=0 then 1 else 0:=by
 have g:(WI.of a).ov=false:=by unfold WI.ov;rw[WI.of_v i];rfl
 have f:(WI.of b).ov=false:=by unfold WI.ov;rw[WI.of_v d];rfl
 unfold fitV;rw[g,f,WI.di d]
 have e:b.sign<=0↔b<=0:=by
  constructor
  ·intro h;by_cases c:0<b
   ·rw[Int.sign_eq_one_of_pos c] at h;omega
   ·omega
  ·intro h;rcases Int.lt_or_eq_of_le h with c|c
   ·rw[Int.sign_eq_neg_one_of_neg c];decide
   ·rw[c];decide
 simp[e]
theorem jL(a b:Int)(d:Sm 1000 a)(c:Sm 1000 b)(f:0<b):xY (WI.of a) (WI.of b)=dS (a.fdiv b):=by
 have e:fitV (WI.of a) (WI.of b)=0:=by rw[tm a b (d.lim (by decide)) (c.lim (by decide)),if_neg (by omega)]
 unfold xY;rw[e,if_neg (by decide)];exact rd a b d c (by omega)
theorem jp(a b:Int)(d:Sm 1000 a)(c:Sm 1000 b)(f:0<b):bP (WI.of a) (WI.of b)=dS (-((-a).fdiv b)):=by
 have e:fitV (WI.of a) (WI.of b)=0:=by rw[tm a b (d.lim (by decide)) (c.lim (by decide)),if_neg (by omega)]
 unfold bP;rw[e,if_neg (by decide)];exact uM a b d c (by omega)
theorem i8(a b:Int)(d:Sm 990 a)(c:Sm 990 b)(f:0<b):bR (WI.of a) (WI.of b)=dS ((2*a+b).fdiv (2*b)):=by
 have e:fitV (WI.of a) (WI.of b)=0:=by rw[tm a b (d.lim (by decide)) (c.lim (by decide)),if_neg (by omega)]
 unfold bR;rw[e,if_neg (by decide)];rw[WI.ce (d.lim (by decide)) (d.lim (by decide)),WI.ce ((d.add d).lim (by decide)) (c.lim (by decide)),WI.ce (c.lim (by decide)) (c.lim (by decide))];rw[show a+a+b=2*a+b by omega,show b+b=2*b by omega];refine jL _ _ ?_ ?_ (by omega)
 ·rw[show 2*a+b=a+a+b by omega];exact((d.add d).add (c.mono (by decide))).mono (by decide)
 ·rw[show 2*b=b+b by omega];exact(c.add c).mono (by decide)
theorem Rj(m r:Nat)(b:m<=9223372036854775807)(a:r=rt m)(w:World):zR 246 #[.int .i64 (m:Int)] w (.int .i64 (r:Int)):=by
 have h:=Ro (m:Int) (by omega) (by omega) w;rw[show max 0 (m:Int)=(m:Int) by omega,uW m (fB (by omega))] at h;have:=xp m;have e:(dS (rt m:Nat)).1=(r:Int):=by unfold dS;rw[if_pos (by omega),a]
 rw[e] at h;exact h
theorem Fq(m r:Nat)(c:m<=9223372036854775807)(a:r=up m)(w:World):zR 150 #[.int .i64 (m:Int)] w (.int .i64 (r:Int)):=by
 have h:=Fr (m:Int) (by omega) (by omega) w
 have b:rt m<9223372036854775807:=by
  have:=xo m 3037000500 (by omega);omega
 rw[show max 0 (m:Int)=(m:Int) by omega,tK m (fB (by omega)) b] at h;rw[a];exact h
theorem Kd(n:Int)(k m:Nat)(b:k<=63)(g:m=2^k-1):bits .and .i64 n (m:Int)=n%(2^k:Nat):=by
 have h:=Nat.two_pow_pos k;have c:2^k<=9223372036854775808:=dL k 63 b
 have e:(BitVec.ofInt 64 n).toNat=(n%18446744073709551616).toNat:=by
  rw[BitVec.toNat_ofInt];rfl
 have a:(BitVec.ofInt 64 (m:Int)).toNat=m:=by
  rw[BitVec.ofInt_natCast,BitVec.toNat_ofNat];exact Nat.mod_eq_of_lt (by omega)
 show IntKind.i64.wrap ((BitVec.ofInt 64 n&&&BitVec.ofInt 64 (m:Int)).toNat:Int)=_;rw[BitVec.toNat_and,e,a,g,Nat.and_two_pow_sub_one_eq_mod,IntKind.wrap_i64]
 have d:(((n%18446744073709551616).toNat%2^k:Nat):Int)=n%(2^k:Nat):=by
  rw[Int.natCast_emod,Int.toNat_of_nonneg (by omega)]
  have f:((2^k:Nat):Int)∣18446744073709551616:=by
   have:(18446744073709551616:Nat)=2^k*2^(64-k):=by rw[<-Nat.pow_add,show k+(64-k)=64 by omega]
   refine⟨((2^(64-k):Nat):Int),?_⟩;rw[<-Int.natCast_mul,<-this];rfl
  exact Int.emod_emod_of_dvd n f
 rw[d];have i:0<=n%((2^k:Nat):Int):=Int.emod_nonneg _ (by omega);have j:n%((2^k:Nat):Int)<((2^k:Nat):Int):=Int.emod_lt_of_pos _ (by omega);omega
end Go.Proofs.YtechbdnhalmobaaGreatDoor
