/- Laws and walks that the claim names. -/
import Derived.Test.YtnoidlacjiafdaaGreatJa
import Derived.BigRegion
import Derived.OwnWalk
set_option maxRecDepth 100000
set_option maxHeartbeats 16000000
namespace Go.Proofs.YtnoidlacjiafdaaGreat
set_option linter.unusedSimpArgs false
set_option linter.unusedVariables false
open Go.RowKit
def aJ (lo hi:Int):Bool:=decide (0≤lo∧lo≤hi∧hi≤4194304)
def upI (z:Int):Int:=(up z.toNat:Nat)
def rtI (z:Int):Int:=(rt z.toNat:Nat)
theorem pZ (z:Int) (h:0≤z):0≤upI z∧z≤upI z*upI z:=by
 have ⟨a,_⟩:=kP z.toNat;unfold upI;refine⟨by omega,?_⟩;rw[← Int.natCast_mul];omega
theorem wW (z k:Int) (hk:0≤k) (h:z≤k*k):upI z≤k:=by
 obtain⟨n,rfl⟩:∃ n:Nat,k=n:=⟨k.toNat,by omega⟩;have:=CD z.toNat n (by rw[← Int.natCast_mul] at h;omega);unfold upI;omega
/-! ### The ring -/
def ringLo (h w k m:Int):Int:=if 0<h-w∧0<h*(m*m)-k*k then max (h-w) (rtI (h*(m*m)-k*k)) else h-w
def ringHi (h w far:Int):Int:=min (h+w) (upI (h*(far*far)))
def dt (ox oy X Y lo hi:Int):St × Int:=if hi<lo then (⟨0,0,0,0,0,0⟩,3) else if hi=lo then (⟨ox,oy,X,Y,lo,hi+1⟩,0) else (⟨ox,oy,X,Y,lo,hi⟩,0)
def ringE (e n:El) (lo hi:Int):St × Int :=
 if e.may=true∧n.may=true∧aJ lo hi=true then
  if e.x-n.x=0∧e.y-n.y=0 then (⟨0,0,0,0,0,0⟩,7)
  else dt n.x n.y (e.x-n.x) (e.y-n.y)
   (ringLo ((e.x-n.x)*(e.x-n.x)+(e.y-n.y)*(e.y-n.y)) (upI (form e.a e.b e.d (e.x-n.x) (e.y-n.y))) (upI (form e.a e.b e.d (-(e.y-n.y)) (e.x-n.x))) (max 0 (lo-n.rad)))
   (ringHi ((e.x-n.x)*(e.x-n.x)+(e.y-n.y)*(e.y-n.y)) (upI (form e.a e.b e.d (e.x-n.x) (e.y-n.y))) (hi+n.rad))
 else (⟨0,0,0,0,0,0⟩,1)
theorem sqb (u m:Int) (h1 : -m≤u) (h2:u≤m):0≤u*u∧u*u≤m*m:=by
 refine⟨ax u,?_⟩;have h3:=Int.mul_nonneg (show 0≤m-u by omega) (show 0≤m+u by omega);have e:(m-u)*(m+u)=m*m-u*u:=by grind
 omega
theorem d5 (a b d x y:Int) (ha : -70368744177664≤a∧a≤70368744177664) (hb : -70368744177664≤b∧b≤70368744177664) (hd : -70368744177664≤d∧d≤70368744177664) (hx : -8388608≤x∧x≤8388608) (hy : -8388608≤y∧y≤8388608) :
  form a b d x y≤140737488355328*140737488355328:=by
 have x2:0≤x*x∧x*x≤70368744177664:=by have:=sqb x 8388608 hx.1 hx.2;omega
 have y2:0≤y*y∧y*y≤70368744177664:=by have:=sqb y 8388608 hy.1 hy.2;omega
 have z2:=ib x y 8388608 8388608 hx.1 hx.2 hy.1 hy.2;have p1:=ib a (x*x) 70368744177664 70368744177664 ha.1 ha.2 (by omega) x2.2;have p2:=ib d (y*y) 70368744177664 70368744177664 hd.1 hd.2 (by omega) y2.2;have p3:=ib b (x*y) 70368744177664 70368744177664 hb.1 hb.2 (by omega) (by omega);unfold form;omega
theorem kB (e:El) (h:e.may=true) (x y:Int):0≤form e.a e.b e.d x y:=mw e h x y
theorem jn (e n:El) (he:e.may=true) (hn:n.may=true):(-8388608≤e.x-n.x∧e.x-n.x≤8388608)∧(-8388608≤e.y-n.y∧e.y-n.y≤8388608):=by
 have m:=((El.aQ e).1 he).1;have m':=((El.aQ n).1 hn).1;omega
theorem gN (e n:El) (he:e.may=true) (hn:n.may=true) :
  (0≤upI (form e.a e.b e.d (e.x-n.x) (e.y-n.y))∧upI (form e.a e.b e.d (e.x-n.x) (e.y-n.y))≤140737488355328)∧(0≤upI (form e.a e.b e.d (-(e.y-n.y)) (e.x-n.x))∧upI (form e.a e.b e.d (-(e.y-n.y)) (e.x-n.x))≤140737488355328):=by
 have m:=((El.aQ e).1 he).2.1;have c:=jn e n he hn;refine⟨⟨(pZ _ (kB e he _ _)).1,wW _ _ (by decide) ?_⟩,(pZ _ (kB e he _ _)).1,wW _ _ (by decide) ?_⟩
 ·exact d5 _ _ _ _ _ (by omega) (by omega) (by omega) (by omega) (by omega)
 ·exact d5 _ _ _ _ _ (by omega) (by omega) (by omega) (by omega) (by omega)
theorem eR (e:El):0≤e.rad:=by unfold El.rad;omega
structure Eu (h w k m far l:Int):Prop where
 h0:0<h
 lw:h-w≤l
 uw:l≤h+w
 lk:h*(m*m)≤l*l+k*k
 uf:l*l≤h*(far*far)
structure Ge (e n:El) (p q p' q' lo hi:Int):Prop where
 he:e.has p q=true
 hn:n.has p' q'=true
 hlo:lo*lo≤(p-p')*(p-p')+(q-q')*(q-q')
 hhi:(p-p')*(p-p')+(q-q')*(q-q')≤hi*hi
 hr:aJ lo hi=true
theorem dj (lo hi:Int):aJ lo hi=true↔0≤lo∧lo≤hi∧hi≤4194304:=by unfold aJ;simp
section
variable {e n:El} {p q p' q' lo hi:Int} (t:Ge e n p q p' q' lo hi)
include t
end
open Go.RowKit
theorem De (lo hi:Int) (w:World):Calls Tryz.prog 18 #[.int .i64 lo,.int .i64 hi] w fun e w'=>e = .returned (.bool (aJ lo hi))∧Below w.heap.size w w':=by
 by_cases h1:0≤lo
 ·by_cases h2:lo≤hi
  ·have E:Hid (aJ lo hi=decide (hi≤4194304)):=by show aJ lo hi=_;unfold aJ;simp[h1,h2]
   go_enter Tryz.func18,Tryz.ntmps18;go_wp2_with fail;go_ret;exact⟨by rw[E.out];rfl,ad⟩
  ·have E:Hid (aJ lo hi=false):=by show aJ lo hi=_;unfold aJ;simp[h2]
   go_enter Tryz.func18,Tryz.ntmps18;go_wp2_with fail;go_ret;exact⟨by rw[E.out];rfl,ad⟩
 ·have E:Hid (aJ lo hi=false):=by show aJ lo hi=_;unfold aJ;simp[h1]
  go_enter Tryz.func18,Tryz.ntmps18;go_wp2_with fail;go_ret;exact⟨by rw[E.out];rfl,ad⟩
theorem jz (lo hi:Int) (k:Bool) (h:aJ lo hi=k) (w:World):Calls Tryz.prog 18 #[.int .i64 lo,.int .i64 hi] w fun e w'=>e = .returned (.bool k)∧Below w.heap.size w w':=by
 subst h;exact De lo hi w
def eS (l:List Int):WI:=l.foldl (fun p n=>p.mul (WI.of n)) (WI.of 1)
def DS (l:List Int):Array Value:=(l.map (fun n=>Value.int .i64 n)).toArray
theorem Br (l:List Int) (k:Nat):(DS l)[k]? = (l[k]?).map (fun n=>Value.int .i64 n):=by unfold DS;simp
theorem sp (l:List Int) (k:Nat) (n:Int) (h:l[k]? = some n):eS (l.take (k+1))=(eS (l.take k)).mul (WI.of n):=by
 unfold eS;rw[List.take_add_one,h];simp
theorem nM (l:List Int) (g:Nat) (w:World) (hl:l.length≤1000) (hall:∀ n ∈ l,-9223372036854775808≤n∧n≤9223372036854775807) (hg:Blk w g (DS l) 2) :
  Calls Tryz.prog 73 #[.slice (some ⟨g,0,none⟩) l.length l.length] w fun e w'=>e = .returned (.agg (eS l).cells)∧Below w.heap.size w w':=by
 have HG:=Lh hg;have HA:=Lh hall;have lg:=HG.out.lt;clear hg hall;go_enter Tryz.func73,Tryz.ntmps73;go_wp2_with fail;refine(eg 1 (by decide) (by decide) _).mono ?_;rintro e w1 ⟨rfl,hb1⟩;have B0:=Lh (((Blk.new w (WI.of 0).cells 47)).keep (by rw[dy] at *;exact hb1));have s1:=hb1.size;(try simp at s1);have HB1:Hid (Below w.heap.size w w1):=(show Below _ _ _ from ad);clear hb1;go_wp2_with fail;go_loopw [5,9] (fun _ i wr=>∃ k:Nat,k≤l.length∧i = .int .i64 k∧Hid (Below w.heap.size w wr)∧Hid (Blk wr w1.heap.size (eS (l.take k)).cells 47)∧Hid (Blk wr w.heap.size (WI.of 0).cells 47)) (fun _ i _=>l.length-(intOf i).toNat)
 case atStart =>
  refine⟨0,by omega,rfl,(show Below _ _ _ from ad),?_,?_⟩
  ·exact Blk.new _ _ _
  ·exact B0.out.alloc _
 case round =>
  obtain⟨k,hk,rfl,HB,H1,H0⟩:=hrel;by_cases hlt:k<l.length
  ·obtain⟨x,hx⟩:∃ x,l[k]? = some x:=⟨_,List.getElem?_eq_getElem hlt⟩;have hx0:Hid (-9223372036854775808≤x∧x≤9223372036854775807):=HA.out x (List.mem_of_getElem? hx);have g2:wr.cell? ⟨g,k,none⟩=some (.int .i64 x):=by rw[(HG.out.keep HB.out).at,Br,hx];rfl
   have g1:wr.row? w1.heap.size 0 18=some (eS (l.take k)).cells:=H1.out.row?_all 18 (by simp);have EP:=Lh (sp l k x hx);have hk1:(k:Int)<(l.length:Int):=by omega
   have hk0:(0:Int)≤k:=by omega
   have f1:=@aA _ _ _ _ _ g1;go_wp2_with fail;refine aB 4 (fun _=>none) (fun _=>[]) (by kernel_rfl) (by kernel_rfl) ?_;apply Eb;apply Eb;apply Eb;apply Eb;refine⟨[],fun gg NN hN=>?_⟩;simp only[List.take_succ_cons,List.take_zero,List.drop_succ_cons,List.drop_zero];(repeat (refine bi rfl ?_;go_big_quiet_step (first|exact rfl|(first|(go_at_call 39;exact aF (eg _ hx0.out.1 hx0.out.2 _))|(go_at_call 42;exact aF (cN _ _ _))));refine wpQuiet_nil ⟨rfl,?_⟩));refine bF ?_;intro w' hb _ _;have hb':Below wr.heap.size wr w':=hb;have B1:=Lh (H1.out.keep hb');have B0':=Lh (H0.out.keep hb');have hp:w'.put? w1.heap.size 0 ((eS (l.take k)).mul (WI.of x)).cells=some (w'.putRow w1.heap.size 0 ((eS (l.take k)).mul (WI.of x)).cells):=B1.out.put? 0 _ (by simp) (by simp);go_wp2
   refine⟨⟨k+1,by omega,by go_num,?_,?_,?_⟩,by simp[intOf];omega⟩
   ·exact ar (Below.trans HB.out (hb'.mono HB.out.size)) (by omega) _ _
   ·rw[EP.out];exact(B1.out.aK 0 _).of_eq (by rw[dw _ _ (by simp)])
   ·exact B0'.out.aC (by omega) 0 _
  ·have hk2:¬ (k:Int)<(l.length:Int):=by omega
   obtain rfl:k=l.length:=by omega
   rw[List.take_length] at H1;have g1:wr.row? w1.heap.size 0 18=some (eS l).cells:=H1.out.row?_all 18 (by simp);have hp:wr.put? w.heap.size 0 (eS l).cells=some (wr.putRow w.heap.size 0 (eS l).cells):=H0.out.put? 0 _ (by simp) (by simp);have g2:=cP hp (n:=18) (by simp);go_wp2_with fail;exact ak 18 (eS l).cells rfl rfl rfl Tryz.underlying47 rfl aE g2 ⟨rfl,ar HB.out (Nat.le_refl _) _ _⟩
/-! ### Values of wide numbers here -/
theorem ie {n:Nat} (h:n≤85070591730234615865843651857942052864):n<lim:=by
 have h2:∀ k,127≤k→85070591730234615865843651857942052864<2^k:=fun k hk=>Nat.lt_of_lt_of_le (by decide) (dL 127 k hk);have h3:∀ k,k=1023→85070591730234615865843651857942052864<lim:=fun k hk=>by rw[pE k hk];exact h2 k (by omega)
 have:=h3 1023 rfl;omega
theorem tL (z:Int) (h0:0≤z) (h1:z≤85070591730234615847396907784232501248):fY (WI.of z)=(upI z,0):=by
 obtain⟨n,rfl⟩:∃ n:Nat,z=n:=⟨z.toNat,by omega⟩
 have h2:rt n<9223372036854775807:=by
  have:=xo n 9223372036854775807 (by omega);omega
 rw[tK n (ie (by omega)) h2];rfl
theorem tM (z:Int) (h0:0≤z) (h1:z≤85070591730234615847396907784232501248):dn (WI.of z)=(rtI z,0):=by
 obtain⟨n,rfl⟩:∃ n:Nat,z=n:=⟨z.toNat,by omega⟩
 have h2:rt n<9223372036854775807:=by
  have:=xo n 9223372036854775807 (by omega);omega
 rw[uW n (ie (by omega))];have h3:(-9223372036854775808:Int)≤((rt n:Nat):Int)∧((rt n:Nat):Int)≤9223372036854775807:=by omega
 unfold dS;rw[if_pos h3];rfl
theorem qw (h m:Int) (hh:0≤h∧h≤140737488355328) (hm:0≤m∧m≤33554432):eS [h,m,m]=WI.of (h*(m*m))∧0≤h*(m*m)∧h*(m*m)≤158456325028528675187087900672:=by
 have s1:Sm 47 h:=by unfold Sm;omega
 have s2:Sm 25 m:=by unfold Sm;omega
 have q:=Int.mul_nonneg hm.1 hm.1;have q2:m*m≤33554432*33554432:=Int.mul_le_mul hm.2 hm.2 hm.1 (by decide);have q3:h*(m*m)≤140737488355328*(33554432*33554432):=Int.mul_le_mul hh.2 q2 q (by decide);refine⟨?_,Int.mul_nonneg hh.1 q,by omega⟩;show(((WI.of 1).mul (WI.of h)).mul (WI.of m)).mul (WI.of m)=_;have one:Sm 0 1:=by unfold Sm;decide
 rw[WI.au (one.lim (by decide)) (s1.lim (by decide)),Int.one_mul,WI.au (s1.lim (by decide)) (s2.lim (by decide)),WI.au ((s1.mul s2).lim (by decide)) (s2.lim (by decide)),Int.mul_assoc]
theorem xN (k:Int) (hk:0≤k∧k≤140737488355328):eS [k,k]=WI.of (k*k)∧0≤k*k∧k*k≤19807040628566084398385987584:=by
 have s1:Sm 47 k:=by unfold Sm;omega
 have q2:k*k≤140737488355328*140737488355328:=Int.mul_le_mul hk.2 hk.2 hk.1 (by decide);refine⟨?_,Int.mul_nonneg hk.1 hk.1,by omega⟩;show((WI.of 1).mul (WI.of k)).mul (WI.of k)=_;have one:Sm 0 1:=by unfold Sm;decide
 rw[WI.au (one.lim (by decide)) (s1.lim (by decide)),Int.one_mul,WI.au (s1.lim (by decide)) (s1.lim (by decide))]
theorem yt (a b:Int) (ha:0≤a∧a≤158456325028528675187087900672) (hb:0≤b∧b≤19807040628566084398385987584):(WI.of a).sub (WI.of b)=WI.of (a-b)∧(WI.of (a-b)).sign=(a-b).sign:=by
 have h1:a.natAbs<lim:=ie (by omega);have h2:b.natAbs<lim:=ie (by omega);have h3:(a-b).natAbs<lim:=ie (by omega);exact⟨WI.ez h1 h2,WI.di h3⟩
theorem lC (x y a b d h k:Int) (he:El.may ⟨x,y,a,b,d⟩=true) (hh : -8388608≤h∧h≤8388608) (hk : -8388608≤k∧k≤8388608) (w:World) :
  Calls Tryz.prog 20 #[elC x y a b d,ptV h k] w fun e w'=>e = .returned (.tuple #[.int .i64 (upI (form a b d h k)),.int .i64 0])∧Below w.heap.size w w':=by
 have HM:=Lh he;have m:=(El.aQ _).1 he;simp only at m;have f0:=mw _ he h k;simp only at f0;have f1:=d5 a b d h k (by omega) (by omega) (by omega) hh hk;have EV:=Lh (tL _ f0 (by omega));have HWI:Hid (withinB h k 16777216=true):=(jT _ _ _).2 (by omega);have HI:Hid (I64 a∧I64 b∧I64 d∧I64 h∧I64 k):=⟨by unfold I64;omega,by unfold I64;omega,by unfold I64;omega,by unfold I64;omega,by unfold I64;omega⟩;clear he hh hk m f0 f1;go_enter Tryz.func20,Tryz.ntmps20;go_wp2_with fail;refine(aN _ _ _ _ _ _ HM.out _).mono ?_;rintro e w1 ⟨rfl,hb1⟩;have z_w1:=hb1.size;(try simp at z_w1);have Kw1aa:=bq hb1 (w.heap.size);have Kw1ab:=bq hb1 (w.heap.size+1);go_wp2_with fail;have WC:=iN h k 16777216 (by decide) w1;rw[HWI.out] at WC;refine WC.mono ?_;rintro e w2 ⟨rfl,hb2⟩;have z_w2:=hb2.size;(try simp at z_w2);have Kw2aa:=bq hb2 (w.heap.size);have Kw2ab:=bq hb2 (w.heap.size+1);clear WC;go_wp2_with fail;refine(xJ _ _ _ _ _ HI.out.1 HI.out.2.1 HI.out.2.2.1 HI.out.2.2.2.1 HI.out.2.2.2.2 _).mono ?_;rintro e w3 ⟨rfl,hb3⟩;have z_w3:=hb3.size;(try simp at z_w3);have Kw3aa:=bq hb3 (w.heap.size);have Kw3ab:=bq hb3 (w.heap.size+1);go_wp2_with fail;refine(pV _ _).mono ?_;rintro e w4 ⟨rfl,hb4⟩;have z4:=hb4.size;go_wp2_with fail;go_ret2
 refine⟨?_,ad⟩;have E:=EV.out;unfold form at E ⊢;rw[E];rfl
open Go.RowKit
theorem iY (h m:Int) (hh:0≤h∧h≤140737488355328) (hm:0≤m∧m≤33554432) (g:Nat) (w:World) (hg:Blk w g #[.int .i64 h,.int .i64 m,.int .i64 m] 2) :
  Calls Tryz.prog 73 #[.slice (some ⟨g,0,none⟩) 3 3] w fun e w'=>e = .returned (.agg (WI.of (h*(m*m))).cells)∧Below w.heap.size w w':=by
 have:=nM [h,m,m] g w (by simp) (by intro n hn;simp at hn;rcases hn with rfl|rfl <;> omega) hg;rw[(qw h m hh hm).1] at this;exact this
theorem tY (k:Int) (hk:0≤k∧k≤140737488355328) (g:Nat) (w:World) (hg:Blk w g #[.int .i64 k,.int .i64 k] 2) :
  Calls Tryz.prog 73 #[.slice (some ⟨g,0,none⟩) 2 2] w fun e w'=>e = .returned (.agg (WI.of (k*k)).cells)∧Below w.heap.size w w':=by
 have:=nM [k,k] g w (by simp) (by intro n hn;simp at hn;subst hn;omega) hg;rw[(xN k hk).1] at this;exact this
theorem xi (x:WI) (s:Int) (h:x.sign=s) (w:World):Calls Tryz.prog 53 #[.agg x.cells] w fun e w'=>e = .returned (.int .i64 s)∧Below w.heap.size w w':=by
 subst h;exact dX x w
theorem yH (h wd k m far:Int) (h1:0≤h∧h≤140737488355328) (h2:0≤wd∧wd≤140737488355328) (h3:0≤k∧k≤140737488355328) (h4:0≤m∧m≤33554432) (h5:0≤far∧far≤33554432) (w:World) :
  Calls Tryz.prog 21 #[.int .i64 h,.int .i64 wd,.int .i64 k,.int .i64 m,.int .i64 far] w fun e w'=>e = .returned (.tuple #[.int .i64 (ringLo h wd k m),.int .i64 (ringHi h wd far),.int .i64 0])∧Below w.heap.size w w':=by
 have p1:=(qw h m h1 h4).2;have p2:=(qw h far h1 h5).2;have p3:=(xN k h3).2;have HL:=Lh (yt (h*(m*m)) (k*k) p1 p3);have HH:=Lh h1;have HK:=Lh h3;have H4:=Lh h4;have H5:=Lh h5;obtain⟨U,hU⟩:∃ U,upI (h*(far*far))=U:=⟨_,rfl⟩;have EU:Hid (fY (WI.of (h*(far*far)))=(U,0)):=by show _=_;rw[tL _ p2.1 (by omega),hU]
 have EH:Hid (ringHi h wd far=min (h+wd) U):=by show _=_;unfold ringHi;rw[hU]
 obtain⟨L,hLL⟩:∃ L,h*(m*m)-k*k=L:=⟨_,rfl⟩;rw[hLL] at HL;have wr1:wrap64 (h-wd)=h-wd:=by unfold wrap64;omega
 have wr2:wrap64 (h+wd)=h+wd:=by unfold wrap64;omega
 obtain⟨h11,h12⟩:=h1;obtain⟨h21,h22⟩:=h2;by_cases c1:0<h-wd
 ·by_cases c2:0<L
  ·obtain⟨n,hn⟩:∃ n,rtI L=n:=⟨_,rfl⟩;have ER:Hid (dn (WI.of L)=(n,0)):=by show _=_;rw[tM L (by omega) (by omega),hn]
   have EL:Hid (ringLo h wd k m=max (h-wd) n):=by show _=_;unfold ringLo;rw[hLL,if_pos ⟨c1,c2⟩,hn]
   have ES:Hid ((WI.of L).sign=1):=by show _=_;rw[HL.out.2];exact Int.sign_eq_one_of_pos c2
   clear h3 h4 h5 p1 p2 p3 hU hLL hn c2 h11 h12 h21 h22;go_enter Tryz.func21,Tryz.ntmps21;go_wp2_with fail;refine(iY _ _ HH.out H4.out _ _ (Blk.new _ _ _)).mono ?_;rintro e w1 ⟨rfl,hb1⟩;have z1:=hb1.size;(try simp at z1);go_wp2_with fail;refine(tY _ HK.out _ _ (Blk.new _ _ _)).mono ?_;rintro e w2 ⟨rfl,hb2⟩;have z2:=hb2.size;(try simp at z2);go_wp2_with fail;refine(jY _ _ _).mono ?_;rintro e w3 ⟨rfl,hb3⟩;rw[HL.out.1];have z3:=hb3.size;(try simp at z3);go_wp2_with fail;refine(xi _ _ ES.out _).mono ?_;rintro e w4 ⟨rfl,hb4⟩;have z_w4:=hb4.size;(try simp at z_w4);have Kw4aa:=bq hb4 (w3.heap.size);go_wp2_with fail;have WD:=zT (WI.of L) w4;rw[ER.out] at WD;refine WD.mono ?_;rintro e w5 ⟨rfl,hb5⟩;have z5:=hb5.size;(try simp at z5);clear WD;go_wp2_with fail;refine(iY _ _ HH.out H5.out _ _ (Blk.new _ _ _)).mono ?_;rintro e w6 ⟨rfl,hb6⟩;have z6:=hb6.size;(try simp at z6);go_wp2_with fail;have WU:=pV (WI.of (h*(far*far))) w6;rw[EU.out] at WU;refine WU.mono ?_;rintro e w7 ⟨rfl,hb7⟩;have z7:=hb7.size;(try simp at z7);clear WU;go_wp2_with fail;go_ret3
   exact⟨by rw[EL.out,EH.out];rfl,ad⟩
  ·have EL:Hid (ringLo h wd k m=h-wd):=by show _=_;unfold ringLo;rw[hLL,if_neg (fun h=>c2 h.2)]
   have ES:∃ sg,(WI.of L).sign=sg∧¬ 0<sg:=by
    refine⟨_,rfl,?_⟩;rw[HL.out.2];rcases Int.lt_or_eq_of_le (Int.not_lt.1 c2) with c|c
    ·rw[Int.sign_eq_neg_one_of_neg c];decide
    ·rw[c];decide
   obtain⟨sg,es,hsg⟩:=ES;have ES:=Lh es;clear h3 h4 h5 p1 p2 p3 hU hLL c2 h11 h12 h21 h22 es;go_enter Tryz.func21,Tryz.ntmps21;go_wp2_with fail;refine(iY _ _ HH.out H4.out _ _ (Blk.new _ _ _)).mono ?_;rintro e w1 ⟨rfl,hb1⟩;have z1:=hb1.size;(try simp at z1);go_wp2_with fail;refine(tY _ HK.out _ _ (Blk.new _ _ _)).mono ?_;rintro e w2 ⟨rfl,hb2⟩;have z2:=hb2.size;(try simp at z2);go_wp2_with fail;refine(jY _ _ _).mono ?_;rintro e w3 ⟨rfl,hb3⟩;rw[HL.out.1];have z3:=hb3.size;(try simp at z3);go_wp2_with fail;refine(xi _ _ ES.out _).mono ?_;rintro e w4 ⟨rfl,hb4⟩;have z_w4:=hb4.size;(try simp at z_w4);have Kw4aa:=bq hb4 (w3.heap.size);have z5:=z_w4;go_wp2_with fail;refine(iY _ _ HH.out H5.out _ _ (Blk.new _ _ _)).mono ?_;rintro e w6 ⟨rfl,hb6⟩;have z6:=hb6.size;(try simp at z6);go_wp2_with fail;have WU:=pV (WI.of (h*(far*far))) w6;rw[EU.out] at WU;refine WU.mono ?_;rintro e w7 ⟨rfl,hb7⟩;have z7:=hb7.size;(try simp at z7);clear WU;go_wp2_with fail;go_ret3
   exact⟨by rw[EL.out,EH.out];rfl,ad⟩
 ·have EL:Hid (ringLo h wd k m=h-wd):=by show _=_;unfold ringLo;rw[if_neg (fun h=>c1 h.1)]
  clear h3 h4 h5 p1 p2 p3 hU hLL h11 h12 h21 h22;go_enter Tryz.func21,Tryz.ntmps21;go_wp2_with fail;refine(iY _ _ HH.out H5.out _ _ (Blk.new _ _ _)).mono ?_;rintro e w6 ⟨rfl,hb6⟩;have z6:=hb6.size;(try simp at z6);go_wp2_with fail;have WU:=pV (WI.of (h*(far*far))) w6;rw[EU.out] at WU;refine WU.mono ?_;rintro e w7 ⟨rfl,hb7⟩;have z7:=hb7.size;(try simp at z7);clear WU;go_wp2_with fail;go_ret3
  exact⟨by rw[EL.out,EH.out];rfl,ad⟩
/-! ### Eu -/
theorem ring_cases (e n:El) (lo hi:Int):(e.may=false)∨(e.may=true∧n.may=false)∨(e.may=true∧n.may=true∧aJ lo hi=false)∨(e.may=true∧n.may=true∧aJ lo hi=true):=by
 cases e.may <;> cases n.may <;> cases aJ lo hi <;> simp
theorem gU (e n:El) (lo hi:Int) (h:e.may=false∨n.may=false∨aJ lo hi=false):ringE e n lo hi=(⟨0,0,0,0,0,0⟩,1):=by
 unfold ringE;rw[if_neg];rintro⟨h1,h2,h3⟩;rw[h1,h2,h3] at h;simp at h
theorem qt (x y a b d r:Int) (h:El.rad ⟨x,y,a,b,d⟩=r) (w:World):Calls Tryz.prog 19 #[elC x y a b d] w fun e w'=>e = .returned (.int .i64 r)∧Below w.heap.size w w':=by
 have:=mO x y a b d w;rw[h] at this;exact this
open Go.RowKit
theorem mj (e n:El) (lo hi:Int) (he:e.may=true) (hn:n.may=true) (hr:aJ lo hi=true) (X Y h wd k m far:Int) (hX:e.x-n.x=X) (hY:e.y-n.y=Y) (hh:X*X+Y*Y=h)
  (hw:upI (form e.a e.b e.d X Y)=wd) (hk:upI (form e.a e.b e.d (-Y) X)=k) (hm:max 0 (lo-n.rad)=m) (hf:hi+n.rad=far) (hne:¬ (X=0∧Y=0)) :
  ringE e n lo hi=dt n.x n.y X Y (ringLo h wd k m) (ringHi h wd far):=by
 unfold ringE;rw[if_pos ⟨he,hn,hr⟩,hX,hY,hh,hw,hk,hm,hf,if_neg hne]
theorem rZ (x y a b d x' y' a' b' d' lo hi:Int) (he:El.may ⟨x,y,a,b,d⟩=true) (hn:El.may ⟨x',y',a',b',d'⟩=true) (hr:aJ lo hi=true) (hX0:¬ x-x'=0) (w:World) :
  Calls Tryz.prog 5 #[elC x y a b d,elC x' y' a' b' d',.int .i64 lo,.int .i64 hi] w fun e w'=>e = .returned (.tuple #[stV (ringE ⟨x,y,a,b,d⟩ ⟨x',y',a',b',d'⟩ lo hi).1,.int .i64 (ringE ⟨x,y,a,b,d⟩ ⟨x',y',a',b',d'⟩ lo hi).2])∧Below w.heap.size w w':=by
 have hne:¬ (x-x'=0∧y-y'=0):=fun h=>hX0 h.1;have cs:=jn _ _ he hn;have al:=gN _ _ he hn;have rl:=El.fg ⟨x',y',a',b',d'⟩;have r0:=eR ⟨x',y',a',b',d'⟩;have hrr:=(dj _ _).1 hr;obtain⟨X,hX⟩:∃ X,x-x'=X:=⟨_,rfl⟩;obtain⟨Y,hY⟩:∃ Y,y-y'=Y:=⟨_,rfl⟩;obtain⟨R,hR⟩:∃ R,El.rad ⟨x',y',a',b',d'⟩=R:=⟨_,rfl⟩;obtain⟨P,hP⟩:∃ P,X*X=P:=⟨_,rfl⟩;obtain⟨Q,hQ⟩:∃ Q,Y*Y=Q:=⟨_,rfl⟩;obtain⟨h,hh⟩:∃ h,P+Q=h:=⟨_,rfl⟩;obtain⟨wd,hw⟩:∃ h,upI (form a b d X Y)=h:=⟨_,rfl⟩;obtain⟨k,hk⟩:∃ h,upI (form a b d (-Y) X)=h:=⟨_,rfl⟩;obtain⟨m,hm⟩:∃ h,max 0 (lo-R)=h:=⟨_,rfl⟩;obtain⟨far,hf⟩:∃ h,hi+R=h:=⟨_,rfl⟩;obtain⟨nY,hnY⟩:∃ h,-Y=h:=⟨_,rfl⟩;obtain⟨lR,hlR⟩:∃ h,lo-R=h:=⟨_,rfl⟩;simp only[hX,hY] at cs al;rw[hw,hk] at al;rw[hR] at rl r0;rw[hX,hY] at hne;rw[hX] at hX0;have hX1:(X==0)=false:=by simp[hX0]
 have hX2:decide (X=0)=false:=by simp[hX0]
 have q1:=sqb X 8388608 cs.1.1 cs.1.2;have q2:=sqb Y 8388608 cs.2.1 cs.2.2;rw[hP] at q1;rw[hQ] at q2;have EQ:=Lh (mj ⟨x,y,a,b,d⟩ ⟨x',y',a',b',d'⟩ lo hi he hn hr X Y h wd k m far hX hY (by rw[hP,hQ,hh]) hw hk (by rw[hR,hm]) (by rw[hR,hf]) hne);have ME:=Lh he;have MN:=Lh hn;have MR:=Lh hr;have ER:=Lh hR;have EW:=Lh hw;rw[hnY] at hk;have EK:=Lh hk;have RX:Hid (-8388608≤X∧X≤8388608):=cs.1;have RY:Hid (-8388608≤Y∧Y≤8388608):=cs.2;have RN:Hid (-8388608≤nY∧nY≤8388608):=show _∧_ from by omega
 have Rh:Hid (0≤h∧h≤140737488355328):=show _∧_ from by omega
 have Rw:Hid (0≤wd∧wd≤140737488355328):=al.1;have Rk:Hid (0≤k∧k≤140737488355328):=al.2;have Rm:Hid (0≤m∧m≤33554432):=show _∧_ from by omega
 have Rf:Hid (0≤far∧far≤33554432):=show _∧_ from by omega
 have wr1:wrap64 (x-x')=X:=by rw[hX];unfold wrap64;omega
 have wr2:wrap64 (y-y')=Y:=by rw[hY];unfold wrap64;omega
 have wr3:wrap64 (X*X)=P:=by rw[hP];unfold wrap64;omega
 have wr4:wrap64 (Y*Y)=Q:=by rw[hQ];unfold wrap64;omega
 have wr5:wrap64 (P+Q)=h:=by rw[hh];unfold wrap64;omega
 have wr6:wrap64 (-Y)=nY:=by rw[hnY];unfold wrap64;omega
 have wr7:wrap64 (lo-R)=lR:=by rw[hlR];unfold wrap64;omega
 have wr8:wrap64 (hi+R)=far:=by rw[hf];unfold wrap64;omega
 have hm':max 0 lR=m:=by rw[← hlR];exact hm
 obtain⟨lo',hlo⟩:∃ z,ringLo h wd k m=z:=⟨_,rfl⟩;obtain⟨hi',hhi⟩:∃ z,ringHi h wd far=z:=⟨_,rfl⟩
 have KE:Hid (∀ w,Calls Tryz.prog 21 #[.int .i64 h,.int .i64 wd,.int .i64 k,.int .i64 m,.int .i64 far] w fun e w'=>e = .returned (.tuple #[.int .i64 lo',.int .i64 hi',.int .i64 0])∧Below w.heap.size w w'):=by
  intro w;have:=yH h wd k m far Rh.out Rw.out Rk.out Rm.out Rf.out w;rw[hlo,hhi] at this;exact this
 rw[hlo,hhi] at EQ
 have BD:Hid (-1000000000000000≤hi'∧hi'≤1000000000000000):=by
  show _∧_;have u0:0≤upI (h*(far*far)):=by unfold upI;omega
  rw[← hhi];unfold ringHi;omega
 clear hR hP hQ hh hw hk hm hf hnY hlR hlo hhi cs al rl r0 hrr q1 q2 hX hY he hn hr hne;go_enter Tryz.func5,Tryz.ntmps5;go_wp2_with fail;refine(aN _ _ _ _ _ _ ME.out _).mono ?_;rintro e w1 ⟨rfl,hb1⟩;have z_w1:=hb1.size;(try simp at z_w1);have K_w1_0:=bq3 hb1 (w.heap.size);go_wp2_with fail;refine(aN _ _ _ _ _ _ MN.out _).mono ?_;rintro e w2 ⟨rfl,hb2⟩;have z_w2:=hb2.size;(try simp at z_w2);have K_w2_0:=bq3 hb2 (w.heap.size);go_wp2_with fail;refine(jz _ _ _ MR.out _).mono ?_;rintro e w3 ⟨rfl,hb3⟩;have z_w3:=hb3.size;(try simp at z_w3);have K_w3_0:=bq3 hb3 (w.heap.size);go_wp2_with fail;refine(qt _ _ _ _ _ _ ER.out _).mono ?_;rintro e w4 ⟨rfl,hb4⟩;have z_w4:=hb4.size;(try simp at z_w4);have K_w4_0:=bq3 hb4 (w.heap.size);have Kw4ba:=bq hb4 (w3.heap.size);go_wp2_with fail;have AL:=lC x y a b d X Y ME.out RX.out RY.out w4;rw[EW.out] at AL;refine AL.mono ?_;rintro e w5 ⟨rfl,hb5⟩;have z_w5:=hb5.size;(try simp at z_w5);have K_w5_0:=bq3 hb5 (w.heap.size);have Kw5ba:=bq hb5 (w3.heap.size);clear AL;go_wp2_with fail;have AL:=lC x y a b d nY X ME.out RN.out RX.out w5;rw[EK.out] at AL;refine AL.mono ?_;rintro e w6 ⟨rfl,hb6⟩;have z_w6:=hb6.size;(try simp at z_w6);have K_w6_0:=bq3 hb6 (w.heap.size);have Kw6ba:=bq hb6 (w3.heap.size);clear AL;go_wp2_with fail;refine(KE.out _).mono ?_;rintro e w7 ⟨rfl,hb7⟩;have z_w7:=hb7.size;(try simp at z_w7);have K_w7_0:=bq3 hb7 (w.heap.size);have Kw7ba:=bq hb7 (w3.heap.size);by_cases l1:hi'<lo'
 ·have EV:Hid (ringE ⟨x,y,a,b,d⟩ ⟨x',y',a',b',d'⟩ lo hi=(⟨0,0,0,0,0,0⟩,3)):=by show _=_;rw[EQ.out];unfold dt;rw[if_pos l1]
  go_wp2_with fail;exact rT 6 #[.int .i64 0,.int .i64 0,.int .i64 0,.int .i64 0,.int .i64 0,.int .i64 0] (.int .i64 3) ⟨by rw[EV.out],ad⟩ (hg:=rc6)
 ·by_cases l2:hi'=lo'
  ·have EV:Hid (ringE ⟨x,y,a,b,d⟩ ⟨x',y',a',b',d'⟩ lo hi=(⟨x',y',X,Y,lo',hi'+1⟩,0)):=by show _=_;rw[EQ.out];unfold dt;rw[if_neg l1,if_pos l2]
   subst l2;have l4:wrap64 (hi'+1)=hi'+1:=by have:=BD.out;unfold wrap64;omega
   have B7:Blk w7 w3.heap.size #[.int .i64 x',.int .i64 y',.int .i64 X,.int .i64 Y,.int .i64 0,.int .i64 0] 29:=((((Blk.new w3 _ _).keep hb4).keep hb5).keep hb6).keep hb7
   have c7:(((w7.setCell ⟨w3.heap.size,4,none⟩ (.int .i64 hi')).setCell ⟨w3.heap.size,5,none⟩ (.int .i64 hi')).setCell ⟨w3.heap.size,5,none⟩ (.int .i64 (hi'+1))).cell? ⟨w3.heap.size,5,none⟩=some (.int .i64 (hi'+1)) :=
    (((B7.ab 4 _).ab 5 _).ab 5 _).cell rfl
   clear B7;go_wp2_with fail;exact rT 6 #[.int .i64 x',.int .i64 y',.int .i64 X,.int .i64 Y,.int .i64 hi',.int .i64 (hi'+1)] (.int .i64 0) ⟨by rw[EV.out],ad⟩ (hg:=rc6)
  ·have EV:Hid (ringE ⟨x,y,a,b,d⟩ ⟨x',y',a',b',d'⟩ lo hi=(⟨x',y',X,Y,lo',hi'⟩,0)):=by show _=_;rw[EQ.out];unfold dt;rw[if_neg l1,if_neg l2]
   have l3:(hi'==lo')=false:=by simp[l2]
   go_wp2_with fail;exact rT 6 #[.int .i64 x',.int .i64 y',.int .i64 X,.int .i64 Y,.int .i64 lo',.int .i64 hi'] (.int .i64 0) ⟨by rw[EV.out],ad⟩ (hg:=rc6)
theorem rY (x y a b d y' a' b' d' lo hi:Int) (he:El.may ⟨x,y,a,b,d⟩=true) (hn:El.may ⟨x,y',a',b',d'⟩=true) (hr:aJ lo hi=true) (hY0:¬ y-y'=0) (w:World) :
  Calls Tryz.prog 5 #[elC x y a b d,elC x y' a' b' d',.int .i64 lo,.int .i64 hi] w fun e w'=>e = .returned (.tuple #[stV (ringE ⟨x,y,a,b,d⟩ ⟨x,y',a',b',d'⟩ lo hi).1,.int .i64 (ringE ⟨x,y,a,b,d⟩ ⟨x,y',a',b',d'⟩ lo hi).2])∧Below w.heap.size w w':=by
 have hne:¬ (x-x=0∧y-y'=0):=fun h=>hY0 h.2;have cs:=jn _ _ he hn;have al:=gN _ _ he hn;have rl:=El.fg ⟨x,y',a',b',d'⟩;have r0:=eR ⟨x,y',a',b',d'⟩;have hrr:=(dj _ _).1 hr;have hX:x-x=0:=by omega
 obtain⟨Y,hY⟩:∃ Y,y-y'=Y:=⟨_,rfl⟩;obtain⟨R,hR⟩:∃ R,El.rad ⟨x,y',a',b',d'⟩=R:=⟨_,rfl⟩;obtain⟨P,hP⟩:∃ P,(0:Int)*0=P:=⟨_,rfl⟩;obtain⟨Q,hQ⟩:∃ Q,Y*Y=Q:=⟨_,rfl⟩;obtain⟨h,hh⟩:∃ h,P+Q=h:=⟨_,rfl⟩;obtain⟨wd,hw⟩:∃ h,upI (form a b d 0 Y)=h:=⟨_,rfl⟩;obtain⟨k,hk⟩:∃ h,upI (form a b d (-Y) 0)=h:=⟨_,rfl⟩;obtain⟨m,hm⟩:∃ h,max 0 (lo-R)=h:=⟨_,rfl⟩;obtain⟨far,hf⟩:∃ h,hi+R=h:=⟨_,rfl⟩;obtain⟨nY,hnY⟩:∃ h,-Y=h:=⟨_,rfl⟩;obtain⟨lR,hlR⟩:∃ h,lo-R=h:=⟨_,rfl⟩;simp only[hX,hY] at cs al;rw[hw,hk] at al;rw[hR] at rl r0;rw[hX,hY] at hne;rw[hY] at hY0;have hY1:(Y==0)=false:=by simp[hY0]
 have hY2:decide (Y=0)=false:=by simp[hY0]
 have q2:=sqb Y 8388608 cs.2.1 cs.2.2;rw[hQ] at q2;have EQ:=Lh (mj ⟨x,y,a,b,d⟩ ⟨x,y',a',b',d'⟩ lo hi he hn hr 0 Y h wd k m far hX hY (by rw[hP,hQ,hh]) hw hk (by rw[hR,hm]) (by rw[hR,hf]) hne);have ME:=Lh he;have MN:=Lh hn;have MR:=Lh hr;have ER:=Lh hR;have EW:=Lh hw;rw[hnY] at hk;have EK:=Lh hk;have RX:Hid (-8388608≤(0:Int)∧(0:Int)≤8388608):=cs.1;have RY:Hid (-8388608≤Y∧Y≤8388608):=cs.2;have RN:Hid (-8388608≤nY∧nY≤8388608):=show _∧_ from by omega
 have Rh:Hid (0≤h∧h≤140737488355328):=show _∧_ from by omega
 have Rw:Hid (0≤wd∧wd≤140737488355328):=al.1;have Rk:Hid (0≤k∧k≤140737488355328):=al.2;have Rm:Hid (0≤m∧m≤33554432):=show _∧_ from by omega
 have Rf:Hid (0≤far∧far≤33554432):=show _∧_ from by omega
 have wr2:wrap64 (y-y')=Y:=by rw[hY];unfold wrap64;omega
 have wr4:wrap64 (Y*Y)=Q:=by rw[hQ];unfold wrap64;omega
 have wr5:wrap64 Q=h:=by unfold wrap64;omega
 have wr6:wrap64 (-Y)=nY:=by rw[hnY];unfold wrap64;omega
 have wr7:wrap64 (lo-R)=lR:=by rw[hlR];unfold wrap64;omega
 have wr8:wrap64 (hi+R)=far:=by rw[hf];unfold wrap64;omega
 have hm':max 0 lR=m:=by rw[← hlR];exact hm
 obtain⟨lo',hlo⟩:∃ z,ringLo h wd k m=z:=⟨_,rfl⟩;obtain⟨hi',hhi⟩:∃ z,ringHi h wd far=z:=⟨_,rfl⟩
 have KE:Hid (∀ w,Calls Tryz.prog 21 #[.int .i64 h,.int .i64 wd,.int .i64 k,.int .i64 m,.int .i64 far] w fun e w'=>e = .returned (.tuple #[.int .i64 lo',.int .i64 hi',.int .i64 0])∧Below w.heap.size w w'):=by
  intro w;have:=yH h wd k m far Rh.out Rw.out Rk.out Rm.out Rf.out w;rw[hlo,hhi] at this;exact this
 rw[hlo,hhi] at EQ
 have BD:Hid (-1000000000000000≤hi'∧hi'≤1000000000000000):=by
  show _∧_;have u0:0≤upI (h*(far*far)):=by unfold upI;omega
  rw[← hhi];unfold ringHi;omega
 clear hR hP hQ hh hw hk hm hf hnY hlR hlo hhi cs al rl r0 hrr q2 hX hY he hn hr hne;go_enter Tryz.func5,Tryz.ntmps5;go_wp2_with fail;refine(aN _ _ _ _ _ _ ME.out _).mono ?_;rintro e w1 ⟨rfl,hb1⟩;have z_w1:=hb1.size;(try simp at z_w1);have K_w1_0:=bq3 hb1 (w.heap.size);go_wp2_with fail;refine(aN _ _ _ _ _ _ MN.out _).mono ?_;rintro e w2 ⟨rfl,hb2⟩;have z_w2:=hb2.size;(try simp at z_w2);have K_w2_0:=bq3 hb2 (w.heap.size);go_wp2_with fail;refine(jz _ _ _ MR.out _).mono ?_;rintro e w3 ⟨rfl,hb3⟩;have z_w3:=hb3.size;(try simp at z_w3);have K_w3_0:=bq3 hb3 (w.heap.size);go_wp2_with fail;refine(qt _ _ _ _ _ _ ER.out _).mono ?_;rintro e w4 ⟨rfl,hb4⟩;have z_w4:=hb4.size;(try simp at z_w4);have K_w4_0:=bq3 hb4 (w.heap.size);have Kw4ba:=bq hb4 (w3.heap.size);go_wp2_with fail;have AL:=lC x y a b d 0 Y ME.out RX.out RY.out w4;rw[EW.out] at AL;refine AL.mono ?_;rintro e w5 ⟨rfl,hb5⟩;have z_w5:=hb5.size;(try simp at z_w5);have K_w5_0:=bq3 hb5 (w.heap.size);have Kw5ba:=bq hb5 (w3.heap.size);clear AL;go_wp2_with fail;have AL:=lC x y a b d nY 0 ME.out RN.out RX.out w5;rw[EK.out] at AL;refine AL.mono ?_;rintro e w6 ⟨rfl,hb6⟩;have z_w6:=hb6.size;(try simp at z_w6);have K_w6_0:=bq3 hb6 (w.heap.size);have Kw6ba:=bq hb6 (w3.heap.size);clear AL;go_wp2_with fail;refine(KE.out _).mono ?_;rintro e w7 ⟨rfl,hb7⟩;have z_w7:=hb7.size;(try simp at z_w7);have K_w7_0:=bq3 hb7 (w.heap.size);have Kw7ba:=bq hb7 (w3.heap.size);by_cases l1:hi'<lo'
 ·have EV:Hid (ringE ⟨x,y,a,b,d⟩ ⟨x,y',a',b',d'⟩ lo hi=(⟨0,0,0,0,0,0⟩,3)):=by show _=_;rw[EQ.out];unfold dt;rw[if_pos l1]
  go_wp2_with fail;exact rT 6 #[.int .i64 0,.int .i64 0,.int .i64 0,.int .i64 0,.int .i64 0,.int .i64 0] (.int .i64 3) ⟨by rw[EV.out],ad⟩ (hg:=rc6)
 ·by_cases l2:hi'=lo'
  ·have EV:Hid (ringE ⟨x,y,a,b,d⟩ ⟨x,y',a',b',d'⟩ lo hi=(⟨x,y',0,Y,lo',hi'+1⟩,0)):=by show _=_;rw[EQ.out];unfold dt;rw[if_neg l1,if_pos l2]
   subst l2;have l4:wrap64 (hi'+1)=hi'+1:=by have:=BD.out;unfold wrap64;omega
   have B7:Blk w7 w3.heap.size #[.int .i64 x,.int .i64 y',.int .i64 0,.int .i64 Y,.int .i64 0,.int .i64 0] 29:=((((Blk.new w3 _ _).keep hb4).keep hb5).keep hb6).keep hb7
   have c7:(((w7.setCell ⟨w3.heap.size,4,none⟩ (.int .i64 hi')).setCell ⟨w3.heap.size,5,none⟩ (.int .i64 hi')).setCell ⟨w3.heap.size,5,none⟩ (.int .i64 (hi'+1))).cell? ⟨w3.heap.size,5,none⟩=some (.int .i64 (hi'+1)) :=
    (((B7.ab 4 _).ab 5 _).ab 5 _).cell rfl
   clear B7;go_wp2_with fail;exact rT 6 #[.int .i64 x,.int .i64 y',.int .i64 0,.int .i64 Y,.int .i64 hi',.int .i64 (hi'+1)] (.int .i64 0) ⟨by rw[EV.out],ad⟩ (hg:=rc6)
  ·have EV:Hid (ringE ⟨x,y,a,b,d⟩ ⟨x,y',a',b',d'⟩ lo hi=(⟨x,y',0,Y,lo',hi'⟩,0)):=by show _=_;rw[EQ.out];unfold dt;rw[if_neg l1,if_neg l2]
   have l3:(hi'==lo')=false:=by simp[l2]
   go_wp2_with fail;exact rT 6 #[.int .i64 x,.int .i64 y',.int .i64 0,.int .i64 Y,.int .i64 lo',.int .i64 hi'] (.int .i64 0) ⟨by rw[EV.out],ad⟩ (hg:=rc6)
open Go.RowKit
theorem Dr (x y a b d x' y' a' b' d' lo hi:Int) (w:World) :
  Calls Tryz.prog 5 #[elC x y a b d,elC x' y' a' b' d',.int .i64 lo,.int .i64 hi] w fun e w'=>e = .returned (.tuple #[stV (ringE ⟨x,y,a,b,d⟩ ⟨x',y',a',b',d'⟩ lo hi).1,.int .i64 (ringE ⟨x,y,a,b,d⟩ ⟨x',y',a',b',d'⟩ lo hi).2])∧Below w.heap.size w w':=by
 rcases ring_cases ⟨x,y,a,b,d⟩ ⟨x',y',a',b',d'⟩ lo hi with h1|⟨h1,h2⟩|⟨h1,h2,h3⟩|⟨h1,h2,h3⟩
 ·have EV:=Lh (gU _ ⟨x',y',a',b',d'⟩ lo hi (.inl h1));have H1:=Lh h1;clear h1;go_enter Tryz.func5,Tryz.ntmps5;go_wp2_with fail;refine(aN _ _ _ _ _ _ H1.out _).mono ?_;rintro e w1 ⟨rfl,hb1⟩;have z_w1:=hb1.size;(try simp at z_w1);have K_w1_0:=bq3 hb1 (w.heap.size);go_wp2_with fail;exact rT 6 #[.int .i64 0,.int .i64 0,.int .i64 0,.int .i64 0,.int .i64 0,.int .i64 0] (.int .i64 1) ⟨by rw[EV.out],ad⟩ (hg:=rc6)
 ·have EV:=Lh (gU ⟨x,y,a,b,d⟩ _ lo hi (.inr (.inl h2)));have H1:=Lh h1;have H2:=Lh h2;clear h1 h2;go_enter Tryz.func5,Tryz.ntmps5;go_wp2_with fail;refine(aN _ _ _ _ _ _ H1.out _).mono ?_;rintro e w1 ⟨rfl,hb1⟩;have z_w1:=hb1.size;(try simp at z_w1);have K_w1_0:=bq3 hb1 (w.heap.size);go_wp2_with fail;refine(aN _ _ _ _ _ _ H2.out _).mono ?_;rintro e w2 ⟨rfl,hb2⟩;have z_w2:=hb2.size;(try simp at z_w2);have K_w2_0:=bq3 hb2 (w.heap.size);go_wp2_with fail;exact rT 6 #[.int .i64 0,.int .i64 0,.int .i64 0,.int .i64 0,.int .i64 0,.int .i64 0] (.int .i64 1) ⟨by rw[EV.out],ad⟩ (hg:=rc6)
 ·have EV:=Lh (gU ⟨x,y,a,b,d⟩ ⟨x',y',a',b',d'⟩ lo hi (.inr (.inr h3)));have H1:=Lh h1;have H2:=Lh h2;have H3:=Lh h3;clear h1 h2 h3;go_enter Tryz.func5,Tryz.ntmps5;go_wp2_with fail;refine(aN _ _ _ _ _ _ H1.out _).mono ?_;rintro e w1 ⟨rfl,hb1⟩;have z_w1:=hb1.size;(try simp at z_w1);have K_w1_0:=bq3 hb1 (w.heap.size);go_wp2_with fail;refine(aN _ _ _ _ _ _ H2.out _).mono ?_;rintro e w2 ⟨rfl,hb2⟩;have z_w2:=hb2.size;(try simp at z_w2);have K_w2_0:=bq3 hb2 (w.heap.size);go_wp2_with fail;refine(jz _ _ _ H3.out _).mono ?_;rintro e w3 ⟨rfl,hb3⟩;have z_w3:=hb3.size;(try simp at z_w3);have K_w3_0:=bq3 hb3 (w.heap.size);go_wp2_with fail;exact rT 6 #[.int .i64 0,.int .i64 0,.int .i64 0,.int .i64 0,.int .i64 0,.int .i64 0] (.int .i64 1) ⟨by rw[EV.out],ad⟩ (hg:=rc6)
 ·by_cases hx:x-x'=0
  ·obtain rfl:x=x':=by omega
   by_cases hy:y-y'=0
   ·obtain rfl:y=y':=by omega
    have EV:Hid (ringE ⟨x,y,a,b,d⟩ ⟨x,y,a',b',d'⟩ lo hi=(⟨0,0,0,0,0,0⟩,7)):=by show _=_;unfold ringE;rw[if_pos ⟨h1,h2,h3⟩,if_pos (by simp)]
    have H1:=Lh h1;have H2:=Lh h2;have H3:=Lh h3;clear h1 h2 h3 hx hy;go_enter Tryz.func5,Tryz.ntmps5;go_wp2_with fail;refine(aN _ _ _ _ _ _ H1.out _).mono ?_;rintro e w1 ⟨rfl,hb1⟩;have z_w1:=hb1.size;(try simp at z_w1);have K_w1_0:=bq3 hb1 (w.heap.size);go_wp2_with fail;refine(aN _ _ _ _ _ _ H2.out _).mono ?_;rintro e w2 ⟨rfl,hb2⟩;have z_w2:=hb2.size;(try simp at z_w2);have K_w2_0:=bq3 hb2 (w.heap.size);go_wp2_with fail;refine(jz _ _ _ H3.out _).mono ?_;rintro e w3 ⟨rfl,hb3⟩;have z_w3:=hb3.size;(try simp at z_w3);have K_w3_0:=bq3 hb3 (w.heap.size);have wz:wrap64 0=0:=by unfold wrap64;omega
    go_wp2_with fail;exact rT 6 #[.int .i64 0,.int .i64 0,.int .i64 0,.int .i64 0,.int .i64 0,.int .i64 0] (.int .i64 7) ⟨by rw[EV.out],ad⟩ (hg:=rc6)
   ·exact rY x y a b d y' a' b' d' lo hi h1 h2 h3 hy w
  ·exact rZ x y a b d x' y' a' b' d' lo hi h1 h2 h3 hx w
theorem rW (x y a b d x' y' a' b' d' lo hi s1 s2 s3 s4 s5 s6 k:Int) (h:ringE ⟨x,y,a,b,d⟩ ⟨x',y',a',b',d'⟩ lo hi=(⟨s1,s2,s3,s4,s5,s6⟩,k)) (w:World) :
  Calls Tryz.prog 5 #[elC x y a b d,elC x' y' a' b' d',.int .i64 lo,.int .i64 hi] w fun e w'=>e = .returned (.tuple #[stC s1 s2 s3 s4 s5 s6,.int .i64 k])∧Below w.heap.size w w':=by
 have:=Dr x y a b d x' y' a' b' d' lo hi w;rw[h] at this;exact this
def acqE (n:El) (hi:Int):El × Int:=if n.may=true∧0≤hi∧hi≤4194304 then (if 4194304<hi+n.rad then (El.zero,2) else ballE n.x n.y (max 1 (hi+n.rad))) else (El.zero,1)
theorem Gd (x y a b d hi:Int) (w:World) :
  Calls Tryz.prog 9 #[elC x y a b d,.int .i64 hi] w fun e w'=>e = .returned (.tuple #[elV (acqE ⟨x,y,a,b,d⟩ hi).1,.int .i64 (acqE ⟨x,y,a,b,d⟩ hi).2])∧Below w.heap.size w w':=by
 cases hm:El.may ⟨x,y,a,b,d⟩ with
 | false =>
  have HM:=Lh hm;have EV:Hid (acqE ⟨x,y,a,b,d⟩ hi=(El.zero,1)):=by show _=_;unfold acqE;rw[if_neg (by rw[hm];simp)]
  clear hm;go_enter Tryz.func9,Tryz.ntmps9;go_wp2_with fail;refine(aN _ _ _ _ _ _ HM.out _).mono ?_;rintro e w1 ⟨rfl,hb1⟩;have z_w1:=hb1.size;(try simp at z_w1);have Kw1aa:=bq hb1 (w.heap.size);have Kw1ab:=bq hb1 (w.heap.size+1);go_wp2_with fail;exact rT 5 z5 (.int .i64 1) ⟨by rw[EV.out];rfl,ad⟩
 | true =>
  have HM:=Lh hm;by_cases h1:hi<0
  ·have EV:Hid (acqE ⟨x,y,a,b,d⟩ hi=(El.zero,1)):=by show _=_;unfold acqE;rw[if_neg (by omega)]
   clear hm;go_enter Tryz.func9,Tryz.ntmps9;go_wp2_with fail;refine(aN _ _ _ _ _ _ HM.out _).mono ?_;rintro e w1 ⟨rfl,hb1⟩;have z_w1:=hb1.size;(try simp at z_w1);have Kw1aa:=bq hb1 (w.heap.size);have Kw1ab:=bq hb1 (w.heap.size+1);go_wp2_with fail;exact rT 5 z5 (.int .i64 1) ⟨by rw[EV.out];rfl,ad⟩
  ·by_cases h2:4194304<hi
   ·have EV:Hid (acqE ⟨x,y,a,b,d⟩ hi=(El.zero,1)):=by show _=_;unfold acqE;rw[if_neg (by omega)]
    clear hm;go_enter Tryz.func9,Tryz.ntmps9;go_wp2_with fail;refine(aN _ _ _ _ _ _ HM.out _).mono ?_;rintro e w1 ⟨rfl,hb1⟩;have z_w1:=hb1.size;(try simp at z_w1);have Kw1aa:=bq hb1 (w.heap.size);have Kw1ab:=bq hb1 (w.heap.size+1);go_wp2_with fail;exact rT 5 z5 (.int .i64 1) ⟨by rw[EV.out];rfl,ad⟩
   ·have rl:=El.fg ⟨x,y,a,b,d⟩;have r0:=eR ⟨x,y,a,b,d⟩;obtain⟨R,hR⟩:∃ R,El.rad ⟨x,y,a,b,d⟩=R:=⟨_,rfl⟩;rw[hR] at rl r0;obtain⟨far,hf⟩:∃ f,hi+R=f:=⟨_,rfl⟩;have wr:wrap64 (hi+R)=far:=by rw[hf];unfold wrap64;omega
    have ER:=Lh hR;have EV0:acqE ⟨x,y,a,b,d⟩ hi=if 4194304<far then (El.zero,2) else ballE x y (max 1 far):=by unfold acqE;rw[if_pos ⟨hm,by omega,by omega⟩,hR,hf]
    by_cases h3:4194304<far
    ·have EV:Hid (acqE ⟨x,y,a,b,d⟩ hi=(El.zero,2)):=by show _=_;rw[EV0,if_pos h3]
     clear hm hR EV0 hf rl r0;go_enter Tryz.func9,Tryz.ntmps9;go_wp2_with fail;refine(aN _ _ _ _ _ _ HM.out _).mono ?_;rintro e w1 ⟨rfl,hb1⟩;have z_w1:=hb1.size;(try simp at z_w1);have Kw1aa:=bq hb1 (w.heap.size);have Kw1ab:=bq hb1 (w.heap.size+1);go_wp2_with fail;refine(qt _ _ _ _ _ _ ER.out _).mono ?_;rintro e w2 ⟨rfl,hb2⟩;have z_w2:=hb2.size;(try simp at z_w2);have Kw2aa:=bq hb2 (w.heap.size);have Kw2ab:=bq hb2 (w.heap.size+1);go_wp2_with fail;exact rT 5 z5 (.int .i64 2) ⟨by rw[EV.out];rfl,ad⟩
    ·obtain⟨⟨bx,bY,ba,bb,bd⟩,kb,hb⟩:∃ o k,ballE x y (max 1 far)=(o,k):=⟨_,_,rfl⟩;have EV:Hid (acqE ⟨x,y,a,b,d⟩ hi=(⟨bx,bY,ba,bb,bd⟩,kb)):=by show _=_;rw[EV0,if_neg h3,hb]
     have EB:=Lh hb;clear hm hR EV0 hf rl r0 hb;go_enter Tryz.func9,Tryz.ntmps9;go_wp2_with fail;refine(aN _ _ _ _ _ _ HM.out _).mono ?_;rintro e w1 ⟨rfl,hb1⟩;have z_w1:=hb1.size;(try simp at z_w1);have Kw1aa:=bq hb1 (w.heap.size);have Kw1ab:=bq hb1 (w.heap.size+1);go_wp2_with fail;refine(qt _ _ _ _ _ _ ER.out _).mono ?_;rintro e w2 ⟨rfl,hb2⟩;have z_w2:=hb2.size;(try simp at z_w2);have Kw2aa:=bq hb2 (w.heap.size);have Kw2ab:=bq hb2 (w.heap.size+1);go_wp2_with fail;refine(fE _ _ _ _ _ _ _ _ _ EB.out _).mono ?_;rintro e w3 ⟨rfl,hb3⟩;have z_w3:=hb3.size;(try simp at z_w3);have Kw3aa:=bq hb3 (w.heap.size);have Kw3ab:=bq hb3 (w.heap.size+1);go_wp2_with fail;exact rT 5 #[.int .i64 bx,.int .i64 bY,.int .i64 ba,.int .i64 bb,.int .i64 bd] (.int .i64 kb) ⟨by rw[EV.out],ad⟩
theorem Gc (x y a b d hi x' y' a' b' d' k:Int) (h:acqE ⟨x,y,a,b,d⟩ hi=(⟨x',y',a',b',d'⟩,k)) (w:World) :
  Calls Tryz.prog 9 #[elC x y a b d,.int .i64 hi] w fun e w'=>e = .returned (.tuple #[elC x' y' a' b' d',.int .i64 k])∧Below w.heap.size w w':=by
 have:=Gd x y a b d hi w;rw[h] at this;exact this
end Go.Proofs.YtnoidlacjiafdaaGreat
