/- Walks. -/
import Derived.BigRegion
import Derived.OwnWalk
import Derived.Test.YtechbdnhalmobaaGreatDoorHA
import Derived.Deep.RegionHeld3
import Derived.Deep.Cut
namespace Go.Proofs.YtechbdnhalmobaaGreatDoor
set_option maxRecDepth 100000
set_option maxHeartbeats 16000000
set_option linter.unusedSimpArgs false
set_option linter.unusedVariables false
open Go.Proofs.Tryz
open Go.RowKit
def aJ(lo hi:Int):Bool:=decide (0<=lo/\lo<=hi/\hi<=4194304)
def upI(z:Int):Int:=(up z.toNat:Nat)
def rtI(z:Int):Int:=(rt z.toNat:Nat)
theorem pZ(z:Int)(h:0<=z):0<=upI z/\z<=upI z*upI z:=by
 have ⟨a,_⟩:=kP z.toNat;unfold upI;refine⟨by omega,?_⟩;rw[<-Int.natCast_mul];omega
theorem wW(z k:Int)(a:0<=k)(h:z<=k*k):upI z<=k:=by
 obtain⟨n,rfl⟩:∃n:Nat,k=n:=⟨k.toNat,by omega⟩;have:=CD z.toNat n (by rw[<-Int.natCast_mul] at h;omega);unfold upI;omega
theorem ID(z:Int)(h:0<=z):0<=rtI z/\rtI z*rtI z<=z/\z<(rtI z+1)*(rtI z+1):=by
 have ⟨a,b⟩:=fJ z.toNat;unfold rtI;refine⟨by omega,?_,?_⟩
 ·rw[<-Int.natCast_mul];omega
 ·have e:((rt z.toNat:Nat):Int)+1=((rt z.toNat+1:Nat):Int):=by omega
  rw[e,<-Int.natCast_mul];omega
theorem KJ{a b:Int}(c:0<=b)(h:a*a<=b*b):a<=b:=(qg c h).2
theorem Cr{a b:Int}(c:0<=a)(h:a<=b):a*a<=b*b:=Int.mul_le_mul h h c (by omega)
theorem Ur(u v x y:Int):(u*x+v*y)*(u*x+v*y)<=(u*u+v*v)*(x*x+y*y):=by
 have a:(u*x+v*y)*(u*x+v*y)=(u*u+v*v)*(x*x+y*y)-(u*y-v*x)*(u*y-v*x):=by grind
 have b:=ax (u*y-v*x);omega
theorem Qa{u v x y R r:Int}(c:0<=R)(d:0<=r)(f:u*u+v*v<=R*R)(b:x*x+y*y<=r*r):-(R*r)<=u*x+v*y/\u*x+v*y<=R*r:=by
 have a:0<=x*x+y*y:=by have:=ax x;have:=ax y;omega
 have h:(u*u+v*v)*(x*x+y*y)<=(R*R)*(r*r):=Int.mul_le_mul f b a (ax R);have g:(R*r)*(R*r)=(R*R)*(r*r):=by grind
 have:=Ur u v x y;exact qg (Int.mul_nonneg c d) (by omega)
theorem On{u v x y R r:Int}(b:0<=R)(c:0<=r)(d:u*u+v*v<=R*R)(a:x*x+y*y<=r*r):(u+x)*(u+x)+(v+y)*(v+y)<=(R+r)*(R+r):=by
 have:=(Qa b c d a).2;have f:(u+x)*(u+x)+(v+y)*(v+y)=(u*u+v*v)+(x*x+y*y)+2*(u*x+v*y):=by grind
 have g:(R+r)*(R+r)=R*R+r*r+2*(R*r):=by grind
 omega
theorem Tr{u v x y R r:Int}(b:0<=R)(c:0<=r)(d:u*u+v*v<R*R)(a:x*x+y*y<=r*r):(u+x)*(u+x)+(v+y)*(v+y)<(R+r)*(R+r):=by
 have:=(Qa b c (Int.le_of_lt d) a).2;have f:(u+x)*(u+x)+(v+y)*(v+y)=(u*u+v*v)+(x*x+y*y)+2*(u*x+v*y):=by grind
 have g:(R+r)*(R+r)=R*R+r*r+2*(R*r):=by grind
 omega
theorem J1(e:El)(p q:Int)(h:e.has p q=true):(p-e.x)*(p-e.x)+(q-e.y)*(q-e.y)<=e.rad*e.rad:=by
 have g:=El.CO e p q h 1 0;have c:=El.CO e p q h 0 1;have l:=e.ml ((El.has_iff _ _ _).1 h).1;have f:form e.a e.b e.d 1 0=e.a:=by unfold form;grind
 have i:form e.a e.b e.d 0 1=e.d:=by unfold form;grind
 rw[f] at g;rw[i] at c;have k:((p-e.x)*1+(q-e.y)*0)*((p-e.x)*1+(q-e.y)*0)=(p-e.x)*(p-e.x):=by grind
 have j:((p-e.x)*0+(q-e.y)*1)*((p-e.x)*0+(q-e.y)*1)=(q-e.y)*(q-e.y):=by grind
 omega
def ringLo(h w k m:Int):Int:=if 0<h-w/\0<h*(m*m)-k*k then max (h-w) (rtI (h*(m*m)-k*k)) else h-w
def ringHi(h w far:Int):Int:=min (h+w) (upI (h*(far*far)))
def dt(ox oy X Y lo hi:Int):St×Int:=if hi<lo then (⟨0,0,0,0,0,0⟩,3) else if hi=lo then (⟨ox,oy,X,Y,lo,hi+1⟩,0) else (⟨ox,oy,X,Y,lo,hi⟩,0)
def ringE(e n:El)(lo hi:Int):St×Int:=
 if e.may=true/\n.may=true/\aJ lo hi=true then
  if e.x-n.x=0/\e.y-n.y=0 then (⟨0,0,0,0,0,0⟩,7)
  else dt n.x n.y (e.x-n.x) (e.y-n.y)
   (ringLo ((e.x-n.x)*(e.x-n.x)+(e.y-n.y)*(e.y-n.y)) (upI (form e.a e.b e.d (e.x-n.x) (e.y-n.y))) (upI (form e.a e.b e.d (-(e.y-n.y)) (e.x-n.x))) (max 0 (lo-n.rad)))
   (ringHi ((e.x-n.x)*(e.x-n.x)+(e.y-n.y)*(e.y-n.y)) (upI (form e.a e.b e.d (e.x-n.x) (e.y-n.y))) (hi+n.rad))
 else (⟨0,0,0,0,0,0⟩,1)
theorem sqb(u m:Int)(c : -m<=u)(a:u<=m):0<=u*u/\u*u<=m*m:=by
 refine⟨ax u,?_⟩;have b:=Int.mul_nonneg (show 0<=m-u by omega) (show 0<=m+u by omega);have e:(m-u)*(m+u)=m*m-u*u:=by grind
 omega
theorem d5(a b d x y:Int)(h : -70368744177664<=a/\a<=70368744177664)(g : -70368744177664<=b/\b<=70368744177664)(i : -70368744177664<=d/\d<=70368744177664)(c : -8388608<=x/\x<=8388608)(f : -8388608<=y/\y<=8388608):form a b d x y<=140737488355328*140737488355328:=by
 have j:0<=x*x/\x*x<=70368744177664:=by have:=sqb x 8388608 c.1 c.2;omega
 have k:0<=y*y/\y*y<=70368744177664:=by have:=sqb y 8388608 f.1 f.2;omega
 have o:=ib x y 8388608 8388608 c.1 c.2 f.1 f.2;have l:=ib a (x*x) 70368744177664 70368744177664 h.1 h.2 (by omega) j.2;have m:=ib d (y*y) 70368744177664 70368744177664 i.1 i.2 (by omega) k.2;have r:=ib b (x*y) 70368744177664 70368744177664 g.1 g.2 (by omega) (by omega);unfold form;omega
theorem kB(e:El)(h:e.may=true)(x y:Int):0<=form e.a e.b e.d x y:=mw e h x y
theorem jn(e n:El)(b:e.may=true)(a:n.may=true):(-8388608<=e.x-n.x/\e.x-n.x<=8388608)/\(-8388608<=e.y-n.y/\e.y-n.y<=8388608):=by
 have m:=((El.aQ e).1 b).1;have c:=((El.aQ n).1 a).1;omega
theorem gN(e n:El)(f:e.may=true)(g:n.may=true):(0<=upI (form e.a e.b e.d (e.x-n.x) (e.y-n.y))/\upI (form e.a e.b e.d (e.x-n.x) (e.y-n.y))<=140737488355328)/\(0<=upI (form e.a e.b e.d (-(e.y-n.y)) (e.x-n.x))/\upI (form e.a e.b e.d (-(e.y-n.y)) (e.x-n.x))<=140737488355328):=by
 have m:=((El.aQ e).1 f).2.1;have c:=jn e n f g;refine⟨⟨(pZ _ (kB e f _ _)).1,wW _ _ (by decide) ?_⟩,(pZ _ (kB e f _ _)).1,wW _ _ (by decide) ?_⟩
 ·exact d5 _ _ _ _ _ (by omega) (by omega) (by omega) (by omega) (by omega)
 ·exact d5 _ _ _ _ _ (by omega) (by omega) (by omega) (by omega) (by omega)
theorem eR(e:El):0<=e.rad:=by unfold El.rad;omega
structure Eu (h w k m far l:Int):Prop where
 h0:0<h
 lw:h-w<=l
 uw:l<=h+w
 lk:h*(m*m)<=l*l+k*k
 uf:l*l<=h*(far*far)
theorem Rp{h w k m c l:Int}(r:Eu h w k m c l):ringLo h w k m<=l/\l<=ringHi h w c:=by
 refine⟨?_,?_⟩
 ·unfold ringLo;split
  ·rename_i g;have a:=ID (h*(m*m)-k*k) (by omega);have d:=r.lk;have f:rtI (h*(m*m)-k*k)*rtI (h*(m*m)-k*k)<=l*l:=by omega
   have i:=r.lw;have:=KJ (a:=rtI (h*(m*m)-k*k)) (b:=l) (by omega) f;omega
  ·exact r.lw
 ·unfold ringHi;have d:0<=h*(c*c):=by have:=r.uf;have:=ax l;omega
  have a:=pZ _ d;have:=KJ (a:=l) a.1 (Int.le_trans r.uf a.2);have:=r.uw;omega
theorem LB{ox oy X Y lo hi l:Int}(c:lo<=l)(b:l<=hi):∃a,dt ox oy X Y lo hi=(⟨ox,oy,X,Y,lo,a⟩,0)/\lo<a/\hi<=a/\a<=hi+1:=by
 unfold dt;rw[if_neg (by omega)];split
 ·exact⟨_,rfl,by omega,by omega,by omega⟩
 ·exact⟨_,rfl,by omega,by omega,by omega⟩
structure Ge (e n:El) (p q p' q' lo hi:Int):Prop where
 he:e.has p q=true
 hn:n.has p' q'=true
 hlo:lo*lo<=(p-p')*(p-p')+(q-q')*(q-q')
 hhi:(p-p')*(p-p')+(q-q')*(q-q')<=hi*hi
 hr:aJ lo hi=true
theorem dj(lo hi:Int):aJ lo hi=true↔0<=lo/\lo<=hi/\hi<=4194304:=by unfold aJ;simp
section
variable {e n:El} {p q p' q' lo hi:Int} (t:Ge e n p q p' q' lo hi)
include t
theorem Kj:(p-n.x)*(p-n.x)+(q-n.y)*(q-n.y)<=(hi+n.rad)*(hi+n.rad):=by
 have r:=(dj _ _).1 t.hr;have:=On (u:=p-p') (v:=q-q') (x:=p'-n.x) (y:=q'-n.y) (R:=hi) (r:=n.rad) (by omega) (eR n) t.hhi (J1 n p' q' t.hn);rw[show p-p'+(p'-n.x)=p-n.x by omega,show q-q'+(q'-n.y)=q-n.y by omega] at this;exact this
theorem ML:max 0 (lo-n.rad)*max 0 (lo-n.rad)<=(p-n.x)*(p-n.x)+(q-n.y)*(q-n.y):=by
 have c:=eR n;rcases Int.lt_or_le 0 (lo-n.rad) with h|h
 ·obtain⟨m,d⟩:∃m,lo-n.rad=m:=⟨_,rfl⟩;rw[d] at h ⊢;rw[show max 0 m=m by omega];rcases Int.lt_or_le ((p-n.x)*(p-n.x)+(q-n.y)*(q-n.y)) (m*m) with a|a
  ·exfalso;have g:=J1 n p' q' t.hn
   have b:(n.x-p')*(n.x-p')+(n.y-q')*(n.y-q')<=n.rad*n.rad:=by
    have f:(n.x-p')*(n.x-p')+(n.y-q')*(n.y-q')=(p'-n.x)*(p'-n.x)+(q'-n.y)*(q'-n.y):=by grind
    omega
   have:=Tr (u:=p-n.x) (v:=q-n.y) (x:=n.x-p') (y:=n.y-q') (R:=m) (r:=n.rad) (by omega) c a b;rw[show p-n.x+(n.x-p')=p-p' by omega,show q-n.y+(n.y-q')=q-q' by omega,show m+n.rad=lo by omega] at this;have:=t.hlo;omega
  ·exact a
 ·rw[show max 0 (lo-n.rad)=0 by omega];have:=ax (p-n.x);have:=ax (q-n.y);omega
theorem MK(i:¬(e.x-n.x=0/\e.y-n.y=0)):Eu ((e.x-n.x)*(e.x-n.x)+(e.y-n.y)*(e.y-n.y)) (upI (form e.a e.b e.d (e.x-n.x) (e.y-n.y))) (upI (form e.a e.b e.d (-(e.y-n.y)) (e.x-n.x))) (max 0 (lo-n.rad)) (hi+n.rad)
   ((e.x-n.x)*(p-n.x)+(e.y-n.y)*(q-n.y)):=by
 have j:=((El.has_iff _ _ _).1 t.he).1;obtain⟨X,L⟩:∃X,e.x-n.x=X:=⟨_,rfl⟩;obtain⟨Y,D⟩:∃Y,e.y-n.y=Y:=⟨_,rfl⟩;have g:=Kj t;have f:=ML t;obtain⟨u,H⟩:∃u,p-n.x=u:=⟨_,rfl⟩;obtain⟨v,B⟩:∃v,q-n.y=v:=⟨_,rfl⟩;rw[L,D] at i ⊢;rw[H,B] at g f ⊢;have m:=El.CO e p q t.he X Y;have o:=El.CO e p q t.he (-Y) X;have l:=pZ _ (kB e j X Y);have G:=pZ _ (kB e j (-Y) X);obtain⟨w,r⟩:∃w,upI (form e.a e.b e.d X Y)=w:=⟨_,rfl⟩;obtain⟨k,K⟩:∃k,upI (form e.a e.b e.d (-Y) X)=k:=⟨_,rfl⟩;rw[r] at l ⊢;rw[K] at G ⊢;have C:p-e.x=u-X:=by omega
 have F:q-e.y=v-Y:=by omega
 rw[C,F] at m o;have J:=qg (z:=(u-X)*X+(v-Y)*Y) l.1 (Int.le_trans m l.2);have s:(u-X)*X+(v-Y)*Y=(X*u+Y*v)-(X*X+Y*Y):=by grind
 have E:(u-X) * -Y+(v-Y)*X=X*v-Y*u:=by grind
 rw[s] at J;rw[E] at o;have O:(X*u+Y*v)*(X*u+Y*v)+(X*v-Y*u)*(X*v-Y*u)=(X*X+Y*Y)*(u*u+v*v):=by grind
 have c:0<X*X+Y*Y:=by
  have Q:=ax X;have M:=ax Y;rcases Int.lt_or_le 0 (X*X+Y*Y) with h|h
  ·exact h
  ·exfalso;have A:X*X=0:=by omega
   have I:Y*Y=0:=by omega
   exact i ⟨by rcases Int.mul_eq_zero.1 A with h|h<;>exact h,by rcases Int.mul_eq_zero.1 I with h|h<;>exact h⟩
 have R:=Int.mul_le_mul_of_nonneg_left f (Int.le_of_lt c);have N:=Int.mul_le_mul_of_nonneg_left g (Int.le_of_lt c);have P:=ax (X*v-Y*u);exact⟨c,by omega,by omega,by omega,by omega⟩
theorem LA(h:¬(e.x-n.x=0/\e.y-n.y=0)):∃s,ringE e n lo hi=(s,0)/\s.may=true/\s.lo<=s.hx*(p-s.ox)+s.hy*(q-s.oy)/\s.hx*(p-s.ox)+s.hy*(q-s.oy)<=s.hi:=by
 have g:=((El.has_iff _ _ _).1 t.he).1;have f:=((El.has_iff _ _ _).1 t.hn).1;have R:=MK t h;have I:=Rp R;have c:=jn e n g f;have u:=gN e n g f;have mn:=((El.aQ n).1 f).1;obtain⟨w,i⟩:∃w,upI (form e.a e.b e.d (e.x-n.x) (e.y-n.y))=w:=⟨_,rfl⟩;obtain⟨k,m⟩:∃k,upI (form e.a e.b e.d (-(e.y-n.y)) (e.x-n.x))=k:=⟨_,rfl⟩;obtain⟨l,j,o,r,z⟩:=LB (ox:=n.x) (oy:=n.y) (X:=e.x-n.x) (Y:=e.y-n.y) I.1 I.2;rw[i] at u;rw[i] at j o r z R I;rw[m] at j o R I;rw[m] at u;refine⟨(⟨n.x,n.y,e.x-n.x,e.y-n.y,ringLo ((e.x-n.x)*(e.x-n.x)+(e.y-n.y)*(e.y-n.y)) w k (max 0 (lo-n.rad)),l⟩:St),?_,?_,?_,?_⟩
 ·unfold ringE;rw[if_pos ⟨g,f,t.hr⟩,if_neg h,i,m];exact j
 ·have B:=sqb (e.x-n.x) 8388608 (by omega) (by omega);have C:=sqb (e.y-n.y) 8388608 (by omega) (by omega)
  have v : -1125899906842624<=ringLo ((e.x-n.x)*(e.x-n.x)+(e.y-n.y)*(e.y-n.y)) w k (max 0 (lo-n.rad)):=by
   unfold ringLo;split<;>omega
  have A:ringHi ((e.x-n.x)*(e.x-n.x)+(e.y-n.y)*(e.y-n.y)) w (hi+n.rad)<=1000000000000000:=by
   unfold ringHi;omega
  refine(St.aQ _).2 ⟨?_,?_,?_,?_,?_,?_⟩<;>simp only<;>omega
 ·exact I.1
 ·exact Int.le_trans I.2 r
end
theorem De(lo hi:Int)(w:World):zR 347 #[lo,hi] w (.bool (aJ lo hi)):=by
 by_cases b:0<=lo
 ·by_cases a:lo<=hi
  ·have E:Hid (aJ lo hi=decide (hi<=4194304)):=by show aJ lo hi=_;unfold aJ;simp[b,a]
   go_enter func347,ntmps347;go_wp2_with fail;go_ret;exact⟨by rw[E.out];rfl,ad⟩
  ·have E:Hid (aJ lo hi=false):=by show aJ lo hi=_;unfold aJ;simp[a]
   go_enter func347,ntmps347;go_wp2_with fail;go_ret;exact⟨by rw[E.out];rfl,ad⟩
 ·have E:Hid (aJ lo hi=false):=by show aJ lo hi=_;unfold aJ;simp[b]
  go_enter func347,ntmps347;go_wp2_with fail;go_ret;exact⟨by rw[E.out];rfl,ad⟩
theorem jz(lo hi:Int)(k:Bool)(h:aJ lo hi=k)(w:World):zR 347 #[lo,hi] w (.bool k):=by
 subst h;exact De lo hi w
def eS(l:List Int):WI:=l.foldl (fun p n=>p.mul (WI.of n)) (WI.of 1)
def DS(l:List Int):Array Value:=(l.map (fun n=>Value.int .i64 n)).toArray
theorem Br(l:List Int)(k:Nat):(DS l)[k]? = (l[k]?).map (fun n=>Value.int .i64 n):=by unfold DS;simp
theorem sp(l:List Int)(k:Nat)(n:Int)(h:l[k]?=some n):eS (l.take (k+1))=(eS (l.take k)).mul (WI.of n):=by
 unfold eS;rw[List.take_add_one,h];simp
theorem nM(l:List Int)(g:Nat)(w:World)(Q:l.length<=1000)(a:∀n∈l,-9223372036854775808<=n/\n<=9223372036854775807)(u:Blk w g (DS l) 2):zR 355 #[.slice (some ⟨g,0,none⟩) l.length l.length] w (.agg (eS l).cells):=by
 have B:=Lh u;have F:=Lh a;have M:=B.out.lt;clear u a;go_enter func355,ntmps355;go_wp2_with fail;refine(eg 1 (by decide) (by decide) _).mono ?_;rintro e d ⟨rfl,c⟩;have I:=Lh (((Blk.new w (WI.of 0).cells 153)).keep (by rw[dy] at *;exact c));have G:=c.size;(try simp at G);have E:Hid (zB w d):=(show Below _ _ _ from ad);clear c;go_wp2_with fail;go_loopw [5,9] (fun _ i wr=>∃k:Nat,k<=l.length/\i=.int .i64 k/\Hid (zB w wr)/\Hid (Blk wr d.heap.size (eS (l.take k)).cells 153)/\Hid (Blk wr w.heap.size (WI.of 0).cells 153)) (fun _ i _=>l.length-(intOf i).toNat)
 case atStart=>
  refine⟨0,by omega,rfl,(show Below _ _ _ from ad),?_,?_⟩
  ·exact Blk.new _ _ _
  ·exact I.out.alloc _
 case round=>
  obtain⟨k,P,rfl,j,h,y⟩:=hrel;by_cases m:k<l.length
  ·obtain⟨x,o⟩:∃x,l[k]?=some x:=⟨_,List.getElem?_eq_getElem m⟩;have f:Hid (-9223372036854775808<=x/\x<=9223372036854775807):=F.out x (List.mem_of_getElem? o);have v:wr.cell? ⟨g,k,none⟩=some (.int .i64 x):=by rw[(B.out.keep j.out).at,Br,o];rfl
   have C:wr.row? d.heap.size 0 18=some (eS (l.take k)).cells:=h.out.row?_all 18 (by simp);have J:=Lh (sp l k x o);have K:(k:Int)<(l.length:Int):=by omega
   have D:(0:Int)<=k:=by omega
   have R:=@aA _ _ _ _ _ C;go_wp2_with fail;refine aB 4 (fun _=>none) (fun _=>[]) (by kernel_rfl) (by kernel_rfl) ?_;apply Eb;apply Eb;apply Eb;apply Eb;refine⟨[],fun O S N=>?_⟩;simp only[List.take_succ_cons,List.take_zero,List.drop_succ_cons,List.drop_zero];(repeat (refine bi rfl ?_;go_big_quiet_step (first|exact rfl|(first|(go_at_call 86;exact aF (eg _ f.out.1 f.out.2 _))|(go_at_call 153;exact aF (cN _ _ _))));refine wpQuiet_nil ⟨rfl,?_⟩));refine bF ?_;intro r L _ _;have b:zB wr r:=L;have A:=Lh (h.out.keep b);have s:=Lh (y.out.keep b);have z:r.put? d.heap.size 0 ((eS (l.take k)).mul (WI.of x)).cells=some (r.putRow d.heap.size 0 ((eS (l.take k)).mul (WI.of x)).cells):=A.out.put? 0 _ (by simp) (by simp);go_wp2
   refine⟨⟨k+1,by omega,by go_num,?_,?_,?_⟩,by simp[intOf];omega⟩
   ·exact ar (Below.trans j.out (b.mono j.out.size)) (by omega) _ _
   ·rw[J.out];exact(A.out.aK 0 _).of_eq (by rw[dw _ _ (by simp)])
   ·exact s.out.aC (by omega) 0 _
  ·have H:¬(k:Int)<(l.length:Int):=by omega
   obtain rfl:k=l.length:=by omega
   rw[List.take_length] at h;have C:wr.row? d.heap.size 0 18=some (eS l).cells:=h.out.row?_all 18 (by simp);have z:wr.put? w.heap.size 0 (eS l).cells=some (wr.putRow w.heap.size 0 (eS l).cells):=y.out.put? 0 _ (by simp) (by simp);have v:=cP z (n:=18) (by simp);go_wp2_with fail;exact ak 18 (eS l).cells rfl rfl rfl underlying153 rfl aE v ⟨rfl,ar j.out (Nat.le_refl _) _ _⟩
theorem ie{n:Nat}(h:n<=85070591730234615865843651857942052864):n<lim:=by
 have b:∀k,127<=k->85070591730234615865843651857942052864<2^k:=fun k a=>Nat.lt_of_lt_of_le (by decide) (dL 127 k a);have c:∀k,k=1023->85070591730234615865843651857942052864<lim:=fun k a=>by rw[pE k a];exact b k (by omega)
 have:=c 1023 rfl;omega
theorem tL(z:Int)(c:0<=z)(b:z<=85070591730234615847396907784232501248):fY (WI.of z)=(upI z,0):=by
 obtain⟨n,rfl⟩:∃n:Nat,z=n:=⟨z.toNat,by omega⟩
 have a:rt n<9223372036854775807:=by
  have:=xo n 9223372036854775807 (by omega);omega
 rw[tK n (ie (by omega)) a];rfl
theorem tM(z:Int)(d:0<=z)(c:z<=85070591730234615847396907784232501248):dn (WI.of z)=(rtI z,0):=by
 obtain⟨n,rfl⟩:∃n:Nat,z=n:=⟨z.toNat,by omega⟩
 have b:rt n<9223372036854775807:=by
  have:=xo n 9223372036854775807 (by omega);omega
 rw[uW n (ie (by omega))];have a:(-9223372036854775808:Int)<=((rt n:Nat):Int)/\((rt n:Nat):Int)<=9223372036854775807:=by omega
 unfold dS;rw[if_pos a];rfl
theorem qw(h m:Int)(f:0<=h/\h<=140737488355328)(a:0<=m/\m<=33554432):eS [h,m,m]=WI.of (h*(m*m))/\0<=h*(m*m)/\h*(m*m)<=158456325028528675187087900672:=by
 have d:Sm 47 h:=by unfold Sm;omega
 have b:Sm 25 m:=by unfold Sm;omega
 have q:=Int.mul_nonneg a.1 a.1;have g:m*m<=33554432*33554432:=Int.mul_le_mul a.2 a.2 a.1 (by decide);have i:h*(m*m)<=140737488355328*(33554432*33554432):=Int.mul_le_mul f.2 g q (by decide);refine⟨?_,Int.mul_nonneg f.1 q,by omega⟩;show(((WI.of 1).mul (WI.of h)).mul (WI.of m)).mul (WI.of m)=_;have c:Sm 0 1:=by unfold Sm;decide
 rw[WI.au (c.lim (by decide)) (d.lim (by decide)),Int.one_mul,WI.au (d.lim (by decide)) (b.lim (by decide)),WI.au ((d.mul b).lim (by decide)) (b.lim (by decide)),Int.mul_assoc]
theorem xN(k:Int)(a:0<=k/\k<=140737488355328):eS [k,k]=WI.of (k*k)/\0<=k*k/\k*k<=19807040628566084398385987584:=by
 have c:Sm 47 k:=by unfold Sm;omega
 have d:k*k<=140737488355328*140737488355328:=Int.mul_le_mul a.2 a.2 a.1 (by decide);refine⟨?_,Int.mul_nonneg a.1 a.1,by omega⟩;show((WI.of 1).mul (WI.of k)).mul (WI.of k)=_;have b:Sm 0 1:=by unfold Sm;decide
 rw[WI.au (b.lim (by decide)) (c.lim (by decide)),Int.one_mul,WI.au (c.lim (by decide)) (c.lim (by decide))]
theorem yt(a b:Int)(h:0<=a/\a<=158456325028528675187087900672)(g:0<=b/\b<=19807040628566084398385987584):(WI.of a).sub (WI.of b)=WI.of (a-b)/\(WI.of (a-b)).sign=(a-b).sign:=by
 have f:a.natAbs<lim:=ie (by omega);have c:b.natAbs<lim:=ie (by omega);have d:(a-b).natAbs<lim:=ie (by omega);exact⟨WI.ez f c,WI.di d⟩
theorem lC(x y a b d h k:Int)(r:El.may ⟨x,y,a,b,d⟩=true)(H : -8388608<=h/\h<=8388608)(I : -8388608<=k/\k<=8388608)(w:World):zR 350 #[elC x y a b d,ptV h k] w (.tuple #[.int .i64 (upI (form a b d h k)),.int .i64 0]):=by
 have K:=Lh r;have m:=(El.aQ _).1 r;simp only at m;have B:=mw _ r h k;simp only at B;have L:=d5 a b d h k (by omega) (by omega) (by omega) H I;have M:=Lh (tL _ B (by omega));have C:Hid (withinB h k 16777216=true):=(jT _ _ _).2 (by omega);have i:Hid (I64 a/\I64 b/\I64 d/\I64 h/\I64 k):=⟨by unfold I64;omega,by unfold I64;omega,by unfold I64;omega,by unfold I64;omega,by unfold I64;omega⟩;clear r H I m B L;go_enter func350,ntmps350;go_wp2_with fail;refine(aN _ _ _ _ _ _ K.out _).mono ?_;rintro e J ⟨rfl,f⟩;have o:=f.size;(try simp at o);have A:=bq f (w.heap.size);have F:=bq f (w.heap.size+1);go_wp2_with fail;have u:=iN h k 16777216 (by decide) J;rw[C.out] at u;refine u.mono ?_;rintro e P ⟨rfl,g⟩;have j:=g.size;(try simp at j);have v:=bq g (w.heap.size);have z:=bq g (w.heap.size+1);clear u;go_wp2_with fail;refine(xJ _ _ _ _ _ i.out.1 i.out.2.1 i.out.2.2.1 i.out.2.2.2.1 i.out.2.2.2.2 _).mono ?_;rintro e O ⟨rfl,c⟩;have l:=c.size;(try simp at l);have D:=bq c (w.heap.size);have G:=bq c (w.heap.size+1);go_wp2_with fail;refine(pV _ _).mono ?_;rintro e N ⟨rfl,s⟩;have Q:=s.size;go_wp2_with fail;go_ret2
 refine⟨?_,ad⟩;have E:=M.out;unfold form at E ⊢;rw[E];rfl
theorem iY(h m:Int)(b:0<=h/\h<=140737488355328)(d:0<=m/\m<=33554432)(g:Nat)(w:World)(c:Blk w g #[h,m,m] 2):zR 355 #[.slice (some ⟨g,0,none⟩) 3 3] w (.agg (WI.of (h*(m*m))).cells):=by
 have:=nM [h,m,m] g w (by simp) (by intro n a;simp at a;rcases a with rfl|rfl<;>omega) c;rw[(qw h m b d).1] at this;exact this
theorem tY(k:Int)(b:0<=k/\k<=140737488355328)(g:Nat)(w:World)(c:Blk w g #[k,k] 2):zR 355 #[.slice (some ⟨g,0,none⟩) 2 2] w (.agg (WI.of (k*k)).cells):=by
 have:=nM [k,k] g w (by simp) (by intro n a;simp at a;subst a;omega) c;rw[(xN k b).1] at this;exact this
theorem xi(x:WI)(s:Int)(h:x.sign=s)(w:World):zR 77 #[.agg x.cells] w (.int .i64 s):=by
 subst h;exact dX x w
theorem yH(h wd k m a:Int)(N:0<=h/\h<=140737488355328)(h2:0<=wd/\wd<=140737488355328)(C:0<=k/\k<=140737488355328)(J:0<=m/\m<=33554432)(F:0<=a/\a<=33554432)(w:World):zR 351 #[h,wd,k,m,a] w (.tuple #[.int .i64 (ringLo h wd k m),.int .i64 (ringHi h wd a),.int .i64 0]):=by
 have M:=(qw h m N J).2;have P:=(qw h a N F).2;have O:=(xN k C).2;have H:=Lh (yt (h*(m*m)) (k*k) M O);have D:=Lh N;have HK:=Lh C;have H4:=Lh J;have S:=Lh F;obtain⟨U,E⟩:∃U,upI (h*(a*a))=U:=⟨_,rfl⟩;have Q:Hid (fY (WI.of (h*(a*a)))=(U,0)):=by show _=_;rw[tL _ P.1 (by omega),E]
 have EH:Hid (ringHi h wd a=min (h+wd) U):=by show _=_;unfold ringHi;rw[E]
 obtain⟨L,d⟩:∃L,h*(m*m)-k*k=L:=⟨_,rfl⟩;rw[d] at H;have a2:wrap64 (h-wd)=h-wd:=by unfold wrap64;omega
 have a1:wrap64 (h+wd)=h+wd:=by unfold wrap64;omega
 obtain⟨o,u⟩:=N;obtain⟨l,y⟩:=h2;by_cases c1:0<h-wd
 ·by_cases z:0<L
  ·obtain⟨n,V⟩:∃n,rtI L=n:=⟨_,rfl⟩;have ER:Hid (dn (WI.of L)=(n,0)):=by show _=_;rw[tM L (by omega) (by omega),V]
   have A:Hid (ringLo h wd k m=max (h-wd) n):=by show _=_;unfold ringLo;rw[d,if_pos ⟨c1,z⟩,V]
   have K:Hid ((WI.of L).sign=1):=by show _=_;rw[H.out.2];exact Int.sign_eq_one_of_pos z
   clear C J F M P O E d V z o u l y;go_enter func351,ntmps351;go_wp2_with fail;refine(iY _ _ D.out H4.out _ _ (Blk.new _ _ _)).mono ?_;rintro e w1 ⟨rfl,v⟩;have R:=v.size;(try simp at R);go_wp2_with fail;refine(tY _ HK.out _ _ (Blk.new _ _ _)).mono ?_;rintro e w2 ⟨rfl,x⟩;have Z:=x.size;(try simp at Z);go_wp2_with fail;refine(jY _ _ _).mono ?_;rintro e Y ⟨rfl,s⟩;rw[H.out.1];have T:=s.size;(try simp at T);go_wp2_with fail;refine(xi _ _ K.out _).mono ?_;rintro e w4 ⟨rfl,f⟩;have b:=f.size;(try simp at b);have r:=bq f (Y.heap.size);go_wp2_with fail;have WD:=zT (WI.of L) w4;rw[ER.out] at WD;refine WD.mono ?_;rintro e w5 ⟨rfl,W⟩;have z5:=W.size;(try simp at z5);clear WD;go_wp2_with fail;refine(iY _ _ D.out S.out _ _ (Blk.new _ _ _)).mono ?_;rintro e I ⟨rfl,i⟩;have B:=i.size;(try simp at B);go_wp2_with fail;have j:=pV (WI.of (h*(a*a))) I;rw[Q.out] at j;refine j.mono ?_;rintro e w7 ⟨rfl,g⟩;have G:=g.size;(try simp at G);clear j;go_wp2_with fail;go_ret3
   exact⟨by rw[A.out,EH.out];rfl,ad⟩
  ·have A:Hid (ringLo h wd k m=h-wd):=by show _=_;unfold ringLo;rw[d,if_neg (fun h=>z h.2)]
   have K:∃X,(WI.of L).sign=X/\¬0<X:=by
    refine⟨_,rfl,?_⟩;rw[H.out.2];rcases Int.lt_or_eq_of_le (Int.not_lt.1 z) with c|c
    ·rw[Int.sign_eq_neg_one_of_neg c];decide
    ·rw[c];decide
   obtain⟨X,es,a0⟩:=K;have K:=Lh es;clear C J F M P O E d z o u l y es;go_enter func351,ntmps351;go_wp2_with fail;refine(iY _ _ D.out H4.out _ _ (Blk.new _ _ _)).mono ?_;rintro e w1 ⟨rfl,v⟩;have R:=v.size;(try simp at R);go_wp2_with fail;refine(tY _ HK.out _ _ (Blk.new _ _ _)).mono ?_;rintro e w2 ⟨rfl,x⟩;have Z:=x.size;(try simp at Z);go_wp2_with fail;refine(jY _ _ _).mono ?_;rintro e Y ⟨rfl,s⟩;rw[H.out.1];have T:=s.size;(try simp at T);go_wp2_with fail;refine(xi _ _ K.out _).mono ?_;rintro e w4 ⟨rfl,f⟩;have b:=f.size;(try simp at b);have r:=bq f (Y.heap.size);have z5:=b;go_wp2_with fail;refine(iY _ _ D.out S.out _ _ (Blk.new _ _ _)).mono ?_;rintro e I ⟨rfl,i⟩;have B:=i.size;(try simp at B);go_wp2_with fail;have j:=pV (WI.of (h*(a*a))) I;rw[Q.out] at j;refine j.mono ?_;rintro e w7 ⟨rfl,g⟩;have G:=g.size;(try simp at G);clear j;go_wp2_with fail;go_ret3
   exact⟨by rw[A.out,EH.out];rfl,ad⟩
 ·have A:Hid (ringLo h wd k m=h-wd):=by show _=_;unfold ringLo;rw[if_neg (fun h=>c1 h.1)]
  clear C J F M P O E d o u l y;go_enter func351,ntmps351;go_wp2_with fail;refine(iY _ _ D.out S.out _ _ (Blk.new _ _ _)).mono ?_;rintro e I ⟨rfl,i⟩;have B:=i.size;(try simp at B);go_wp2_with fail;have j:=pV (WI.of (h*(a*a))) I;rw[Q.out] at j;refine j.mono ?_;rintro e w7 ⟨rfl,g⟩;have G:=g.size;(try simp at G);clear j;go_wp2_with fail;go_ret3
  exact⟨by rw[A.out,EH.out];rfl,ad⟩
theorem ring_cases(e n:El)(lo hi:Int):(e.may=false)∨(e.may=true/\n.may=false)∨(e.may=true/\n.may=true/\aJ lo hi=false)∨(e.may=true/\n.may=true/\aJ lo hi=true):=by
 cases e.may<;>cases n.may<;>cases aJ lo hi<;>simp
theorem gU(e n:El)(lo hi:Int)(h:e.may=false∨n.may=false∨aJ lo hi=false):ringE e n lo hi=(⟨0,0,0,0,0,0⟩,1):=by
 unfold ringE;rw[if_neg];rintro⟨h1,h2,h3⟩;rw[h1,h2,h3] at h;simp at h
theorem qt(x y a b d r:Int)(h:El.rad ⟨x,y,a,b,d⟩=r)(w:World):zR 80 #[elC x y a b d] w (.int .i64 r):=by
 have:=mO x y a b d w;rw[h] at this;exact this
theorem mj(e n:El)(lo hi:Int)(u:e.may=true)(l:n.may=true)(s:aJ lo hi=true)(X Y h wd k m c:Int)(w:e.x-n.x=X)(r:e.y-n.y=Y)(g:X*X+Y*Y=h)(i:upI (form e.a e.b e.d X Y)=wd)(v:upI (form e.a e.b e.d (-Y) X)=k)(o:max 0 (lo-n.rad)=m)(j:hi+n.rad=c)(f:¬(X=0/\Y=0)):ringE e n lo hi=dt n.x n.y X Y (ringLo h wd k m) (ringHi h wd c):=by
 unfold ringE;rw[if_pos ⟨u,l,s⟩,w,r,g,i,v,o,j,if_neg f]
theorem rZ(x y a b d f i l r o lo hi:Int)(he:El.may ⟨x,y,a,b,d⟩=true)(M:El.may ⟨f,i,l,r,o⟩=true)(hr:aJ lo hi=true)(C:¬x-f=0)(w:World):zR 348 #[elC x y a b d,elC f i l r o,lo,hi] w (.tuple #[stV (ringE ⟨x,y,a,b,d⟩ ⟨f,i,l,r,o⟩ lo hi).1,.int .i64 (ringE ⟨x,y,a,b,d⟩ ⟨f,i,l,r,o⟩ lo hi).2]):=by
 have I:¬(x-f=0/\y-i=0):=fun h=>C h.1;have E:=jn _ _ he M;have al:=gN _ _ he M;have rl:=El.fg ⟨f,i,l,r,o⟩;have r0:=eR ⟨f,i,l,r,o⟩;have b3:=(dj _ _).1 hr;obtain⟨X,K⟩:∃X,x-f=X:=⟨_,rfl⟩;obtain⟨Y,hY⟩:∃Y,y-i=Y:=⟨_,rfl⟩;obtain⟨R,N⟩:∃R,El.rad ⟨f,i,l,r,o⟩=R:=⟨_,rfl⟩;obtain⟨P,hP⟩:∃P,X*X=P:=⟨_,rfl⟩;obtain⟨Q,hQ⟩:∃Q,Y*Y=Q:=⟨_,rfl⟩;obtain⟨h,hh⟩:∃h,P+Q=h:=⟨_,rfl⟩;obtain⟨wd,hw⟩:∃h,upI (form a b d X Y)=h:=⟨_,rfl⟩;obtain⟨k,hk⟩:∃h,upI (form a b d (-Y) X)=h:=⟨_,rfl⟩;obtain⟨m,hm⟩:∃h,max 0 (lo-R)=h:=⟨_,rfl⟩;obtain⟨g,hf⟩:∃h,hi+R=h:=⟨_,rfl⟩;obtain⟨nY,H⟩:∃h,-Y=h:=⟨_,rfl⟩;obtain⟨lR,G⟩:∃h,lo-R=h:=⟨_,rfl⟩;simp only[K,hY] at E al;rw[hw,hk] at al;rw[N] at rl r0;rw[K,hY] at I;rw[K] at C;have b7:(X==0)=false:=by simp[C]
 have b5:decide (X=0)=false:=by simp[C]
 have q1:=sqb X 8388608 E.1.1 E.1.2;have q2:=sqb Y 8388608 E.2.1 E.2.2;rw[hP] at q1;rw[hQ] at q2;have EQ:=Lh (mj ⟨x,y,a,b,d⟩ ⟨f,i,l,r,o⟩ lo hi he M hr X Y h wd k m g K hY (by rw[hP,hQ,hh]) hw hk (by rw[N,hm]) (by rw[N,hf]) I);have ME:=Lh he;have MN:=Lh M;have MR:=Lh hr;have ER:=Lh N;have EW:=Lh hw;rw[H] at hk;have EK:=Lh hk;have RX:Hid (-8388608<=X/\X<=8388608):=E.1;have RY:Hid (-8388608<=Y/\Y<=8388608):=E.2;have RN:Hid (-8388608<=nY/\nY<=8388608):=show _/\_ from by omega
 have Rh:Hid (0<=h/\h<=140737488355328):=show _/\_ from by omega
 have Rw:Hid (0<=wd/\wd<=140737488355328):=al.1;have Rk:Hid (0<=k/\k<=140737488355328):=al.2;have Rm:Hid (0<=m/\m<=33554432):=show _/\_ from by omega
 have Rf:Hid (0<=g/\g<=33554432):=show _/\_ from by omega
 have b6:wrap64 (x-f)=X:=by rw[K];unfold wrap64;omega
 have c0:wrap64 (y-i)=Y:=by rw[hY];unfold wrap64;omega
 have c3:wrap64 (X*X)=P:=by rw[hP];unfold wrap64;omega
 have b8:wrap64 (Y*Y)=Q:=by rw[hQ];unfold wrap64;omega
 have b9:wrap64 (P+Q)=h:=by rw[hh];unfold wrap64;omega
 have c5:wrap64 (-Y)=nY:=by rw[H];unfold wrap64;omega
 have c2:wrap64 (lo-R)=lR:=by rw[G];unfold wrap64;omega
 have c4:wrap64 (hi+R)=g:=by rw[hf];unfold wrap64;omega
 have c1:max 0 lR=m:=by rw[<-G];exact hm
 obtain⟨j,J⟩:∃z,ringLo h wd k m=z:=⟨_,rfl⟩;obtain⟨c,v⟩:∃z,ringHi h wd g=z:=⟨_,rfl⟩
 have KE:Hid (∀w,zR 351 #[h,wd,k,m,g] w (.tuple #[j,c,.int .i64 0])):=by
  intro w;have:=yH h wd k m g Rh.out Rw.out Rk.out Rm.out Rf.out w;rw[J,v] at this;exact this
 rw[J,v] at EQ
 have BD:Hid (-1000000000000000<=c/\c<=1000000000000000):=by
  show _/\_;have u0:0<=upI (h*(g*g)):=by unfold upI;omega
  rw[<-v];unfold ringHi;omega
 clear N hP hQ hh hw hk hm hf H G J v E al rl r0 b3 q1 q2 K hY he M hr I;go_enter func348,ntmps348;go_wp2_with fail;refine(aN _ _ _ _ _ _ ME.out _).mono ?_;rintro e w1 ⟨rfl,a2⟩;have V:=a2.size;(try simp at V);have a4:=bq3 a2 (w.heap.size);go_wp2_with fail;refine(aN _ _ _ _ _ _ MN.out _).mono ?_;rintro e w2 ⟨rfl,a0⟩;have W:=a0.size;(try simp at W);have a5:=bq3 a0 (w.heap.size);go_wp2_with fail;refine(jz _ _ _ MR.out _).mono ?_;rintro e s ⟨rfl,a1⟩;have T:=a1.size;(try simp at T);have a3:=bq3 a1 (w.heap.size);go_wp2_with fail;refine(qt _ _ _ _ _ _ ER.out _).mono ?_;rintro e w4 ⟨rfl,u⟩;have S:=u.size;(try simp at S);have a8:=bq3 u (w.heap.size);have b0:=bq u (s.heap.size);go_wp2_with fail;have F:=lC x y a b d X Y ME.out RX.out RY.out w4;rw[EW.out] at F;refine F.mono ?_;rintro e w5 ⟨rfl,A⟩;have L:=A.size;(try simp at L);have a7:=bq3 A (w.heap.size);have b2:=bq A (s.heap.size);clear F;go_wp2_with fail;have F:=lC x y a b d nY X ME.out RN.out RX.out w5;rw[EK.out] at F;refine F.mono ?_;rintro e w6 ⟨rfl,D⟩;have O:=D.size;(try simp at O);have a9:=bq3 D (w.heap.size);have b4:=bq D (s.heap.size);clear F;go_wp2_with fail;refine(KE.out _).mono ?_;rintro e w7 ⟨rfl,B⟩;have Z:=B.size;(try simp at Z);have a6:=bq3 B (w.heap.size);have b1:=bq B (s.heap.size);by_cases l1:c<j
 ·have U:Hid (ringE ⟨x,y,a,b,d⟩ ⟨f,i,l,r,o⟩ lo hi=(⟨0,0,0,0,0,0⟩,3)):=by show _=_;rw[EQ.out];unfold dt;rw[if_pos l1]
  go_wp2_with fail;exact rT 6 #[.int .i64 0,.int .i64 0,.int .i64 0,.int .i64 0,.int .i64 0,.int .i64 0] (.int .i64 3) ⟨by rw[U.out],ad⟩ (j:=rc6)
 ·by_cases l2:c=j
  ·have U:Hid (ringE ⟨x,y,a,b,d⟩ ⟨f,i,l,r,o⟩ lo hi=(⟨f,i,X,Y,j,c+1⟩,0)):=by show _=_;rw[EQ.out];unfold dt;rw[if_neg l1,if_pos l2]
   subst l2;have l4:wrap64 (c+1)=c+1:=by have:=BD.out;unfold wrap64;omega
   have B7:Blk w7 s.heap.size #[f,i,X,Y,.int .i64 0,.int .i64 0] 431:=((((Blk.new s _ _).keep u).keep A).keep D).keep B
   have c7:(((w7.setCell ⟨s.heap.size,4,none⟩ (.int .i64 c)).setCell ⟨s.heap.size,5,none⟩ (.int .i64 c)).setCell ⟨s.heap.size,5,none⟩ (.int .i64 (c+1))).cell? ⟨s.heap.size,5,none⟩=some (.int .i64 (c+1)):=
    (((B7.ab 4 _).ab 5 _).ab 5 _).cell rfl
   clear B7;go_wp2_with fail;exact rT 6 #[.int .i64 f,.int .i64 i,.int .i64 X,.int .i64 Y,.int .i64 c,.int .i64 (c+1)] (.int .i64 0) ⟨by rw[U.out],ad⟩ (j:=rc6)
  ·have U:Hid (ringE ⟨x,y,a,b,d⟩ ⟨f,i,l,r,o⟩ lo hi=(⟨f,i,X,Y,j,c⟩,0)):=by show _=_;rw[EQ.out];unfold dt;rw[if_neg l1,if_neg l2]
   have l3:(c==j)=false:=by simp[l2]
   go_wp2_with fail;exact rT 6 #[.int .i64 f,.int .i64 i,.int .i64 X,.int .i64 Y,.int .i64 j,.int .i64 c] (.int .i64 0) ⟨by rw[U.out],ad⟩ (j:=rc6)
theorem rY(x y a b d f j o l lo hi:Int)(he:El.may ⟨x,y,a,b,d⟩=true)(L:El.may ⟨x,f,j,o,l⟩=true)(hr:aJ lo hi=true)(v:¬y-f=0)(w:World):zR 348 #[elC x y a b d,elC x f j o l,lo,hi] w (.tuple #[stV (ringE ⟨x,y,a,b,d⟩ ⟨x,f,j,o,l⟩ lo hi).1,.int .i64 (ringE ⟨x,y,a,b,d⟩ ⟨x,f,j,o,l⟩ lo hi).2]):=by
 have G:¬(x-x=0/\y-f=0):=fun h=>v h.2;have J:=jn _ _ he L;have X:=gN _ _ he L;have rl:=El.fg ⟨x,f,j,o,l⟩;have r0:=eR ⟨x,f,j,o,l⟩;have b2:=(dj _ _).1 hr;have hX:x-x=0:=by omega
 obtain⟨Y,I⟩:∃Y,y-f=Y:=⟨_,rfl⟩;obtain⟨R,M⟩:∃R,El.rad ⟨x,f,j,o,l⟩=R:=⟨_,rfl⟩;obtain⟨P,hP⟩:∃P,(0:Int)*0=P:=⟨_,rfl⟩;obtain⟨Q,hQ⟩:∃Q,Y*Y=Q:=⟨_,rfl⟩;obtain⟨h,hh⟩:∃h,P+Q=h:=⟨_,rfl⟩;obtain⟨wd,hw⟩:∃h,upI (form a b d 0 Y)=h:=⟨_,rfl⟩;obtain⟨k,hk⟩:∃h,upI (form a b d (-Y) 0)=h:=⟨_,rfl⟩;obtain⟨m,hm⟩:∃h,max 0 (lo-R)=h:=⟨_,rfl⟩;obtain⟨g,hf⟩:∃h,hi+R=h:=⟨_,rfl⟩;obtain⟨nY,F⟩:∃h,-Y=h:=⟨_,rfl⟩;obtain⟨lR,E⟩:∃h,lo-R=h:=⟨_,rfl⟩;simp only[hX,I] at J X;rw[hw,hk] at X;rw[M] at rl r0;rw[hX,I] at G;rw[I] at v;have b4:(Y==0)=false:=by simp[v]
 have b6:decide (Y=0)=false:=by simp[v]
 have q2:=sqb Y 8388608 J.2.1 J.2.2;rw[hQ] at q2;have EQ:=Lh (mj ⟨x,y,a,b,d⟩ ⟨x,f,j,o,l⟩ lo hi he L hr 0 Y h wd k m g hX I (by rw[hP,hQ,hh]) hw hk (by rw[M,hm]) (by rw[M,hf]) G);have ME:=Lh he;have MN:=Lh L;have MR:=Lh hr;have ER:=Lh M;have EW:=Lh hw;rw[F] at hk;have EK:=Lh hk;have RX:Hid (-8388608<=(0:Int)/\(0:Int)<=8388608):=J.1;have RY:Hid (-8388608<=Y/\Y<=8388608):=J.2;have RN:Hid (-8388608<=nY/\nY<=8388608):=show _/\_ from by omega
 have Rh:Hid (0<=h/\h<=140737488355328):=show _/\_ from by omega
 have Rw:Hid (0<=wd/\wd<=140737488355328):=X.1;have Rk:Hid (0<=k/\k<=140737488355328):=X.2;have Rm:Hid (0<=m/\m<=33554432):=show _/\_ from by omega
 have Rf:Hid (0<=g/\g<=33554432):=show _/\_ from by omega
 have b8:wrap64 (y-f)=Y:=by rw[I];unfold wrap64;omega
 have b5:wrap64 (Y*Y)=Q:=by rw[hQ];unfold wrap64;omega
 have b7:wrap64 Q=h:=by unfold wrap64;omega
 have c2:wrap64 (-Y)=nY:=by rw[F];unfold wrap64;omega
 have c0:wrap64 (lo-R)=lR:=by rw[E];unfold wrap64;omega
 have c1:wrap64 (hi+R)=g:=by rw[hf];unfold wrap64;omega
 have b9:max 0 lR=m:=by rw[<-E];exact hm
 obtain⟨i,H⟩:∃z,ringLo h wd k m=z:=⟨_,rfl⟩;obtain⟨c,u⟩:∃z,ringHi h wd g=z:=⟨_,rfl⟩
 have KE:Hid (∀w,zR 351 #[h,wd,k,m,g] w (.tuple #[i,c,.int .i64 0])):=by
  intro w;have:=yH h wd k m g Rh.out Rw.out Rk.out Rm.out Rf.out w;rw[H,u] at this;exact this
 rw[H,u] at EQ
 have BD:Hid (-1000000000000000<=c/\c<=1000000000000000):=by
  show _/\_;have u0:0<=upI (h*(g*g)):=by unfold upI;omega
  rw[<-u];unfold ringHi;omega
 clear M hP hQ hh hw hk hm hf F E H u J X rl r0 b2 q2 hX I he L hr G;go_enter func348,ntmps348;go_wp2_with fail;refine(aN _ _ _ _ _ _ ME.out _).mono ?_;rintro e w1 ⟨rfl,a1⟩;have U:=a1.size;(try simp at U);have a3:=bq3 a1 (w.heap.size);go_wp2_with fail;refine(aN _ _ _ _ _ _ MN.out _).mono ?_;rintro e w2 ⟨rfl,Z⟩;have V:=Z.size;(try simp at V);have a4:=bq3 Z (w.heap.size);go_wp2_with fail;refine(jz _ _ _ MR.out _).mono ?_;rintro e r ⟨rfl,a0⟩;have S:=a0.size;(try simp at S);have a2:=bq3 a0 (w.heap.size);go_wp2_with fail;refine(qt _ _ _ _ _ _ ER.out _).mono ?_;rintro e w4 ⟨rfl,s⟩;have O:=s.size;(try simp at O);have a7:=bq3 s (w.heap.size);have a9:=bq s (r.heap.size);go_wp2_with fail;have D:=lC x y a b d 0 Y ME.out RX.out RY.out w4;rw[EW.out] at D;refine D.mono ?_;rintro e w5 ⟨rfl,A⟩;have K:=A.size;(try simp at K);have a6:=bq3 A (w.heap.size);have b1:=bq A (r.heap.size);clear D;go_wp2_with fail;have D:=lC x y a b d nY 0 ME.out RN.out RX.out w5;rw[EK.out] at D;refine D.mono ?_;rintro e w6 ⟨rfl,C⟩;have N:=C.size;(try simp at N);have a8:=bq3 C (w.heap.size);have b3:=bq C (r.heap.size);clear D;go_wp2_with fail;refine(KE.out _).mono ?_;rintro e w7 ⟨rfl,B⟩;have W:=B.size;(try simp at W);have a5:=bq3 B (w.heap.size);have b0:=bq B (r.heap.size);by_cases l1:c<i
 ·have T:Hid (ringE ⟨x,y,a,b,d⟩ ⟨x,f,j,o,l⟩ lo hi=(⟨0,0,0,0,0,0⟩,3)):=by show _=_;rw[EQ.out];unfold dt;rw[if_pos l1]
  go_wp2_with fail;exact rT 6 #[.int .i64 0,.int .i64 0,.int .i64 0,.int .i64 0,.int .i64 0,.int .i64 0] (.int .i64 3) ⟨by rw[T.out],ad⟩ (j:=rc6)
 ·by_cases l2:c=i
  ·have T:Hid (ringE ⟨x,y,a,b,d⟩ ⟨x,f,j,o,l⟩ lo hi=(⟨x,f,0,Y,i,c+1⟩,0)):=by show _=_;rw[EQ.out];unfold dt;rw[if_neg l1,if_pos l2]
   subst l2;have l4:wrap64 (c+1)=c+1:=by have:=BD.out;unfold wrap64;omega
   have B7:Blk w7 r.heap.size #[x,f,.int .i64 0,Y,.int .i64 0,.int .i64 0] 431:=((((Blk.new r _ _).keep s).keep A).keep C).keep B
   have c7:(((w7.setCell ⟨r.heap.size,4,none⟩ (.int .i64 c)).setCell ⟨r.heap.size,5,none⟩ (.int .i64 c)).setCell ⟨r.heap.size,5,none⟩ (.int .i64 (c+1))).cell? ⟨r.heap.size,5,none⟩=some (.int .i64 (c+1)):=
    (((B7.ab 4 _).ab 5 _).ab 5 _).cell rfl
   clear B7;go_wp2_with fail;exact rT 6 #[.int .i64 x,.int .i64 f,.int .i64 0,.int .i64 Y,.int .i64 c,.int .i64 (c+1)] (.int .i64 0) ⟨by rw[T.out],ad⟩ (j:=rc6)
  ·have T:Hid (ringE ⟨x,y,a,b,d⟩ ⟨x,f,j,o,l⟩ lo hi=(⟨x,f,0,Y,i,c⟩,0)):=by show _=_;rw[EQ.out];unfold dt;rw[if_neg l1,if_neg l2]
   have l3:(c==i)=false:=by simp[l2]
   go_wp2_with fail;exact rT 6 #[.int .i64 x,.int .i64 f,.int .i64 0,.int .i64 Y,.int .i64 i,.int .i64 c] (.int .i64 0) ⟨by rw[T.out],ad⟩ (j:=rc6)
theorem Dr(x y a b d s r A B z lo hi:Int)(w:World):zR 348 #[elC x y a b d,elC s r A B z,lo,hi] w (.tuple #[stV (ringE ⟨x,y,a,b,d⟩ ⟨s,r,A,B,z⟩ lo hi).1,.int .i64 (ringE ⟨x,y,a,b,d⟩ ⟨s,r,A,B,z⟩ lo hi).2]):=by
 rcases ring_cases ⟨x,y,a,b,d⟩ ⟨s,r,A,B,z⟩ lo hi with j|⟨j,l⟩|⟨j,l,u⟩|⟨j,l,u⟩
 ·have C:=Lh (gU _ ⟨s,r,A,B,z⟩ lo hi (.inl j));have D:=Lh j;clear j;go_enter func348,ntmps348;go_wp2_with fail;refine(aN _ _ _ _ _ _ D.out _).mono ?_;rintro e F ⟨rfl,c⟩;have f:=c.size;(try simp at f);have g:=bq3 c (w.heap.size);go_wp2_with fail;exact rT 6 #[.int .i64 0,.int .i64 0,.int .i64 0,.int .i64 0,.int .i64 0,.int .i64 0] (.int .i64 1) ⟨by rw[C.out],ad⟩ (j:=rc6)
 ·have C:=Lh (gU ⟨x,y,a,b,d⟩ _ lo hi (.inr (.inl l)));have D:=Lh j;have E:=Lh l;clear j l;go_enter func348,ntmps348;go_wp2_with fail;refine(aN _ _ _ _ _ _ D.out _).mono ?_;rintro e F ⟨rfl,c⟩;have f:=c.size;(try simp at f);have g:=bq3 c (w.heap.size);go_wp2_with fail;refine(aN _ _ _ _ _ _ E.out _).mono ?_;rintro e J ⟨rfl,i⟩;have h:=i.size;(try simp at h);have k:=bq3 i (w.heap.size);go_wp2_with fail;exact rT 6 #[.int .i64 0,.int .i64 0,.int .i64 0,.int .i64 0,.int .i64 0,.int .i64 0] (.int .i64 1) ⟨by rw[C.out],ad⟩ (j:=rc6)
 ·have C:=Lh (gU ⟨x,y,a,b,d⟩ ⟨s,r,A,B,z⟩ lo hi (.inr (.inr u)));have D:=Lh j;have E:=Lh l;have G:=Lh u;clear j l u;go_enter func348,ntmps348;go_wp2_with fail;refine(aN _ _ _ _ _ _ D.out _).mono ?_;rintro e F ⟨rfl,c⟩;have f:=c.size;(try simp at f);have g:=bq3 c (w.heap.size);go_wp2_with fail;refine(aN _ _ _ _ _ _ E.out _).mono ?_;rintro e J ⟨rfl,i⟩;have h:=i.size;(try simp at h);have k:=bq3 i (w.heap.size);go_wp2_with fail;refine(jz _ _ _ G.out _).mono ?_;rintro e K ⟨rfl,m⟩;have o:=m.size;(try simp at o);have v:=bq3 m (w.heap.size);go_wp2_with fail;exact rT 6 #[.int .i64 0,.int .i64 0,.int .i64 0,.int .i64 0,.int .i64 0,.int .i64 0] (.int .i64 1) ⟨by rw[C.out],ad⟩ (j:=rc6)
 ·by_cases I:x-s=0
  ·obtain rfl:x=s:=by omega
   by_cases H:y-r=0
   ·obtain rfl:y=r:=by omega
    have C:Hid (ringE ⟨x,y,a,b,d⟩ ⟨x,y,A,B,z⟩ lo hi=(⟨0,0,0,0,0,0⟩,7)):=by show _=_;unfold ringE;rw[if_pos ⟨j,l,u⟩,if_pos (by simp)]
    have D:=Lh j;have E:=Lh l;have G:=Lh u;clear j l u I H;go_enter func348,ntmps348;go_wp2_with fail;refine(aN _ _ _ _ _ _ D.out _).mono ?_;rintro e F ⟨rfl,c⟩;have f:=c.size;(try simp at f);have g:=bq3 c (w.heap.size);go_wp2_with fail;refine(aN _ _ _ _ _ _ E.out _).mono ?_;rintro e J ⟨rfl,i⟩;have h:=i.size;(try simp at h);have k:=bq3 i (w.heap.size);go_wp2_with fail;refine(jz _ _ _ G.out _).mono ?_;rintro e K ⟨rfl,m⟩;have o:=m.size;(try simp at o);have v:=bq3 m (w.heap.size);have L:wrap64 0=0:=by unfold wrap64;omega
    go_wp2_with fail;exact rT 6 #[.int .i64 0,.int .i64 0,.int .i64 0,.int .i64 0,.int .i64 0,.int .i64 0] (.int .i64 7) ⟨by rw[C.out],ad⟩ (j:=rc6)
   ·exact rY x y a b d r A B z lo hi j l u H w
  ·exact rZ x y a b d s r A B z lo hi j l u I w
theorem rW(x y a b d c f j i g lo hi r m s l o u k:Int)(h:ringE ⟨x,y,a,b,d⟩ ⟨c,f,j,i,g⟩ lo hi=(⟨r,m,s,l,o,u⟩,k))(w:World):zR 348 #[elC x y a b d,elC c f j i g,lo,hi] w (.tuple #[stC r m s l o u,k]):=by
 have:=Dr x y a b d c f j i g lo hi w;rw[h] at this;exact this
def acqE(n:El)(hi:Int):El×Int:=if n.may=true/\0<=hi/\hi<=4194304 then (if 4194304<hi+n.rad then (El.zero,2) else ballE n.x n.y (max 1 (hi+n.rad))) else (El.zero,1)
theorem Gd(x y a b d hi:Int)(w:World):zR 346 #[elC x y a b d,hi] w (.tuple #[elV (acqE ⟨x,y,a,b,d⟩ hi).1,.int .i64 (acqE ⟨x,y,a,b,d⟩ hi).2]):=by
 cases hm:El.may ⟨x,y,a,b,d⟩ with
 | false=>
  have A:=Lh hm;have r:Hid (acqE ⟨x,y,a,b,d⟩ hi=(El.zero,1)):=by show _=_;unfold acqE;rw[if_neg (by rw[hm];simp)]
  clear hm;go_enter func346,ntmps346;go_wp2_with fail;refine(aN _ _ _ _ _ _ A.out _).mono ?_;rintro e D ⟨rfl,c⟩;have g:=c.size;(try simp at g);have h:=bq c (w.heap.size);have i:=bq c (w.heap.size+1);go_wp2_with fail;exact rT 5 z5 (.int .i64 1) ⟨by rw[r.out];rfl,ad⟩
 | true=>
  have A:=Lh hm;by_cases W:hi<0
  ·have r:Hid (acqE ⟨x,y,a,b,d⟩ hi=(El.zero,1)):=by show _=_;unfold acqE;rw[if_neg (by omega)]
   clear hm;go_enter func346,ntmps346;go_wp2_with fail;refine(aN _ _ _ _ _ _ A.out _).mono ?_;rintro e D ⟨rfl,c⟩;have g:=c.size;(try simp at g);have h:=bq c (w.heap.size);have i:=bq c (w.heap.size+1);go_wp2_with fail;exact rT 5 z5 (.int .i64 1) ⟨by rw[r.out];rfl,ad⟩
  ·by_cases U:4194304<hi
   ·have r:Hid (acqE ⟨x,y,a,b,d⟩ hi=(El.zero,1)):=by show _=_;unfold acqE;rw[if_neg (by omega)]
    clear hm;go_enter func346,ntmps346;go_wp2_with fail;refine(aN _ _ _ _ _ _ A.out _).mono ?_;rintro e D ⟨rfl,c⟩;have g:=c.size;(try simp at g);have h:=bq c (w.heap.size);have i:=bq c (w.heap.size+1);go_wp2_with fail;exact rT 5 z5 (.int .i64 1) ⟨by rw[r.out];rfl,ad⟩
   ·have F:=El.fg ⟨x,y,a,b,d⟩;have G:=eR ⟨x,y,a,b,d⟩;obtain⟨R,C⟩:∃R,El.rad ⟨x,y,a,b,d⟩=R:=⟨_,rfl⟩;rw[C] at F G;obtain⟨l,E⟩:∃f,hi+R=f:=⟨_,rfl⟩;have wr:wrap64 (hi+R)=l:=by rw[E];unfold wrap64;omega
    have L:=Lh C;have s:acqE ⟨x,y,a,b,d⟩ hi=if 4194304<l then (El.zero,2) else ballE x y (max 1 l):=by unfold acqE;rw[if_pos ⟨hm,by omega,by omega⟩,C,E]
    by_cases M:4194304<l
    ·have r:Hid (acqE ⟨x,y,a,b,d⟩ hi=(El.zero,2)):=by show _=_;rw[s,if_pos M]
     clear hm C s E F G;go_enter func346,ntmps346;go_wp2_with fail;refine(aN _ _ _ _ _ _ A.out _).mono ?_;rintro e D ⟨rfl,c⟩;have g:=c.size;(try simp at g);have h:=bq c (w.heap.size);have i:=bq c (w.heap.size+1);go_wp2_with fail;refine(qt _ _ _ _ _ _ L.out _).mono ?_;rintro e T ⟨rfl,j⟩;have m:=j.size;(try simp at m);have u:=bq j (w.heap.size);have v:=bq j (w.heap.size+1);go_wp2_with fail;exact rT 5 z5 (.int .i64 2) ⟨by rw[r.out];rfl,ad⟩
    ·obtain⟨⟨N,K,O,P,bd⟩,Q,I⟩:∃o k,ballE x y (max 1 l)=(o,k):=⟨_,_,rfl⟩;have r:Hid (acqE ⟨x,y,a,b,d⟩ hi=(⟨N,K,O,P,bd⟩,Q)):=by show _=_;rw[s,if_neg M,I]
     have S:=Lh I;clear hm C s E F G I;go_enter func346,ntmps346;go_wp2_with fail;refine(aN _ _ _ _ _ _ A.out _).mono ?_;rintro e D ⟨rfl,c⟩;have g:=c.size;(try simp at g);have h:=bq c (w.heap.size);have i:=bq c (w.heap.size+1);go_wp2_with fail;refine(qt _ _ _ _ _ _ L.out _).mono ?_;rintro e T ⟨rfl,j⟩;have m:=j.size;(try simp at m);have u:=bq j (w.heap.size);have v:=bq j (w.heap.size+1);go_wp2_with fail;refine(fE _ _ _ _ _ _ _ _ _ S.out _).mono ?_;rintro e V ⟨rfl,z⟩;have B:=z.size;(try simp at B);have H:=bq z (w.heap.size);have J:=bq z (w.heap.size+1);go_wp2_with fail;exact rT 5 #[.int .i64 N,.int .i64 K,.int .i64 O,.int .i64 P,.int .i64 bd] (.int .i64 Q) ⟨by rw[r.out],ad⟩
theorem GcU(x y a b d hi f g c i j k:Int)(h:acqE ⟨x,y,a,b,d⟩ hi=(⟨f,g,c,i,j⟩,k))(w:World):zR 346 #[elC x y a b d,hi] w (.tuple #[elC f g c i j,k]):=by
 have:=Gd x y a b d hi w;rw[h] at this;exact this
end Go.Proofs.YtechbdnhalmobaaGreatDoor
