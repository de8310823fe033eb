/- Walks. -/
import Derived.Test.YtechbdnhalmobaaGreatDoorJa
open Go.Proofs.Tryz
set_option maxRecDepth 100000
set_option maxHeartbeats 16000000
namespace Go.Proofs.YtechbdnhalmobaaGreatDoor
set_option linter.unusedSimpArgs false
set_option linter.unusedVariables false
open Go.RowKit
def Iq.d(i:Iq):Int:=i.A*i.D-i.B*i.B
def Iq.x(i:Iq):Int:=i.D*i.U-i.B*i.V
def Iq.y(i:Iq):Int:=i.A*i.V-i.B*i.U
def Iq.lv(i:Iq):Int:=(i.N-i.Z)*i.d+(i.D*(i.U*i.U)+i.A*(i.V*i.V) + -(2*(i.B*(i.U*i.V))))
def cf(a b:Int):Int×Int:=dS ((2*a+b).fdiv (2*b))
def cD(a b:Int):Int×Int:=dS (cdiv a b)
def db(a b:Int):Int×Int:=dS (a.fdiv b)
def ellI(i:Iq):El×Int:=
 if i.A<=0∨i.d<=0 then (El.zero,1)
 else if i.lv<0 then (El.zero,3)
 else cm (cf i.x i.d).1 (cf i.y i.d).1 (cD (i.lv*i.D) (i.d*i.d)).1 (db (-(i.lv*i.B)) (i.d*i.d)).1 (cD (i.lv*i.A) (i.d*i.d)).1
  (max (max (max (max (max 0 (cf i.x i.d).2) (cf i.y i.d).2) (cD (i.lv*i.D) (i.d*i.d)).2) (cD (i.lv*i.A) (i.d*i.d)).2) (db (-(i.lv*i.B)) (i.d*i.d)).2)
theorem WI.cl{a:Int}(h:a.natAbs<lim):(WI.of a).ov=false:=by unfold WI.ov;rw [WI.of_v h];rfl
theorem bG(a:Int):a.sign<=0↔a<=0:=by
 rcases Int.lt_trichotomy a 0 with h|h|h
 ·rw[Int.sign_eq_neg_one_of_neg h];omega
 ·subst h;simp
 ·rw[Int.sign_eq_one_of_pos h];omega
theorem dQ(a:Int):a.sign<0↔a<0:=by
 rcases Int.lt_trichotomy a 0 with h|h|h
 ·rw[Int.sign_eq_neg_one_of_neg h];omega
 ·subst h;simp
 ·rw[Int.sign_eq_one_of_pos h];omega
structure Iq.Out (i:Iq):Prop where
 d:Sm 411 i.d
 x:Sm 411 i.x
 y:Sm 411 i.y
 lv:Sm 630 i.lv
theorem Iq.out{i:Iq}(h:i.Sml 205):i.Out:=by
 refine⟨(h.A.mul h.D).sub (h.B.mul h.B),(h.D.mul h.U).sub (h.B.mul h.V),(h.A.mul h.V).sub (h.B.mul h.U),?_⟩;have c:Sm 411 i.d:=(h.A.mul h.D).sub (h.B.mul h.B);have h2:Sm 2 2:=by unfold Sm;decide
 have a:=((h.N.sub h.Z).mul c).mono (show 206+411<=628 by decide);have b:=((h.D.mul (h.U.mul h.U)).add (h.A.mul (h.V.mul h.V))).mono (show 205+(205+205)+1<=627 by decide);have e:=((h2.mul (h.B.mul (h.U.mul h.V))).neg).mono (show 2+(205+(205+205))<=627 by decide);have:=(a.add (b.add e)).mono (show 628+1<=630 by decide);exact this
theorem FI(i:Iq)(h:i.Sml 205)(w:World):zR 214 #[iqV i] w (.tuple #[elV (ellI i).1,.int .i64 (ellI i).2]):=by
 have o:=Iq.out h;have n:=h.A.lim (by decide);have e:=h.B.lim (by decide);have t:=h.D.lim (by decide);have g:=h.U.lim (by decide);have f:=h.V.lim (by decide);have L:=h.Z.lim (by decide);have F:=h.N.lim (by decide);have p:=o.d.lim (by decide);have lx:=o.x.lim (by decide);have ly:=o.y.lim (by decide);have q:=o.lv.lim (by decide);have G:Sm 205 2:=by unfold Sm;exact Nat.le_trans (by decide) (Nat.pow_le_pow_right (by decide) (show 1<=205 by decide))
 have HD:((WI.of i.A).mul (WI.of i.D)).sub ((WI.of i.B).mul (WI.of i.B))=WI.of i.d:=by
  rw[WI.au n t,WI.au e e,WI.ez ((h.A.mul h.D).lim (by decide)) ((h.B.mul h.B).lim (by decide))];rfl
 have HX:((WI.of i.D).mul (WI.of i.U)).sub ((WI.of i.B).mul (WI.of i.V))=WI.of i.x:=by
  rw[WI.au t g,WI.au e f,WI.ez ((h.D.mul h.U).lim (by decide)) ((h.B.mul h.V).lim (by decide))];rfl
 have Y:((WI.of i.A).mul (WI.of i.V)).sub ((WI.of i.B).mul (WI.of i.U))=WI.of i.y:=by
  rw[WI.au n f,WI.au e g,WI.ez ((h.A.mul h.V).lim (by decide)) ((h.B.mul h.U).lim (by decide))];rfl
 have W:i9 (WI.of i.A) (WI.of i.B) (WI.of i.D) (WI.of i.U) (WI.of i.V) (WI.of i.Z) (WI.of i.N) (WI.of i.d)=WI.of i.lv:=by
  unfold i9;have a1:=((h.N.sub h.Z).mul o.d);have I:=((h.D.mul (h.U.mul h.U)).add (h.A.mul (h.V.mul h.V)));have E:=G.mul (h.B.mul (h.U.mul h.V))
  rw[WI.ez F L,WI.au ((h.N.sub h.Z).lim (by decide)) p,WI.au g g,WI.au f f,
   kR (j:=410) _ _ _ _ (h.D.mono (by decide)) (h.U.mul h.U) (h.A.mono (by decide)) (h.V.mul h.V) (by decide),WI.au g f,WI.au e ((h.U.mul h.V).lim (by decide)),
   WI.au (G.lim (by decide)) ((h.B.mul (h.U.mul h.V)).lim (by decide)),WI.of_neg (E.lim (by decide)),WI.ce (I.lim (by decide)) (E.neg.lim (by decide)),
   WI.ce (a1.lim (by decide)) (((I.mono (show 205+(205+205)+1<=900 by decide)).add (E.neg.mono (show 205+(205+(205+205))<=900 by decide))).lim (by decide))]
  rfl
 have P:(WI.of i.d).mul (WI.of i.d)=WI.of (i.d*i.d):=WI.au p p;have S:(WI.of i.lv).mul (WI.of i.D)=WI.of (i.lv*i.D):=WI.au q t;have HQ:(WI.of i.lv).mul (WI.of i.A)=WI.of (i.lv*i.A):=WI.au q n;have HR:((WI.of i.lv).mul (WI.of i.B)).neg=WI.of (-(i.lv*i.B)):=by rw[WI.au q e,WI.of_neg ((o.lv.mul h.B).lim (by decide))]
 have M:=(o.lv.mul h.D);have J:=(o.lv.mul h.A);have O:=(o.lv.mul h.B).neg;have s:=o.d.mul o.d
 have HV:ew [WI.of i.A,WI.of i.B,WI.of i.D,WI.of i.U,WI.of i.V,WI.of i.Z,WI.of i.N]=false:=by
  simp[ew,WI.cl n,WI.cl e,WI.cl t,WI.cl g,WI.cl f,WI.cl L,WI.cl F]
 have X:ew [WI.of i.d,WI.of i.x,WI.of i.y,WI.of i.lv,WI.of (i.d*i.d),WI.of (i.lv*i.D),WI.of (i.lv*i.A),WI.of (-(i.lv*i.B))]=false:=by
  simp[ew,WI.cl p,WI.cl lx,WI.cl ly,WI.cl q,WI.cl (s.lim (by decide)),WI.cl (M.lim (by decide)),WI.cl (J.lim (by decide)),WI.cl (O.lim (by decide))]
 have u:(WI.of i.A).sign=i.A.sign:=WI.di n;have z:(WI.of i.d).sign=i.d.sign:=WI.di p;have H:(WI.of i.lv).sign=i.lv.sign:=WI.di q;have N1:0<i.d->bR (WI.of i.x) (WI.of i.d)=cf i.x i.d:=fun b=>i8 _ _ (o.x.mono (by decide)) (o.d.mono (by decide)) b;have N2:0<i.d->bR (WI.of i.y) (WI.of i.d)=cf i.y i.d:=fun b=>i8 _ _ (o.y.mono (by decide)) (o.d.mono (by decide)) b;have C:0<i.d->0<i.d*i.d:=fun b=>Int.mul_pos b b;have Q:0<i.d->bP (WI.of (i.lv*i.D)) (WI.of (i.d*i.d))=cD (i.lv*i.D) (i.d*i.d):=fun b=>jp _ _ (M.mono (by decide)) (s.mono (by decide)) (C b);have T:0<i.d->bP (WI.of (i.lv*i.A)) (WI.of (i.d*i.d))=cD (i.lv*i.A) (i.d*i.d):=fun b=>jp _ _ (J.mono (by decide)) (s.mono (by decide)) (C b);have R:0<i.d->xY (WI.of (-(i.lv*i.B))) (WI.of (i.d*i.d))=db (-(i.lv*i.B)) (i.d*i.d):=fun b=>jL _ _ (O.mono (by decide)) (s.mono (by decide)) (C b);have c:∀a:Int,0<a.sign->0<a:=fun a ha=>by have:=bG a;omega
 have v:∀a:Int,0<=a.sign->0<=a:=fun a ha=>by have:=dQ a;omega
 refine yJ _ _ _ _ _ _ _ _ _ _ _ _ _ _ _ HD HX Y W P S HQ HR HV X (ellI i) ?_ ?_ (bR (WI.of i.x) (WI.of i.d)).1 (bR (WI.of i.y) (WI.of i.d)).1 (bP (WI.of (i.lv*i.D)) (WI.of (i.d*i.d))).1 (xY (WI.of (-(i.lv*i.B))) (WI.of (i.d*i.d))).1 (bP (WI.of (i.lv*i.A)) (WI.of (i.d*i.d))).1 (bR (WI.of i.x) (WI.of i.d)).2 (bR (WI.of i.y) (WI.of i.d)).2 (bP (WI.of (i.lv*i.D)) (WI.of (i.d*i.d))).2 (bP (WI.of (i.lv*i.A)) (WI.of (i.d*i.d))).2 (xY (WI.of (-(i.lv*i.B))) (WI.of (i.d*i.d))).2 rfl rfl rfl rfl rfl ?_ w
 ·intro K;rw[u,z,bG,bG] at K;unfold ellI;rw[if_pos K]
 ·intro r k l;rw[u] at r;rw[z] at k;rw[H,dQ] at l;have:=c _ r;have:=c _ k;unfold ellI;rw[if_neg (by omega),if_pos l]
 ·intro r k l;rw[u] at r;rw[z] at k;rw[H] at l;have q1:=c _ r;have m:=c _ k;have q3:=v _ l;rw[N1 m,N2 m,Q m,T m,R m];unfold ellI;rw[if_neg (by omega),if_neg (by omega)]
def bU(i j:Iq)(k bad:Int):El×Int:=if bad=0 then (if (mixQ i j k).2=0 then ellI (mixQ i j k).1 else (El.zero,1)) else (El.zero,1)
theorem FA(i j m:Iq)(e:Int)(b:i.Sml 120)(a:j.Sml 120)(k:Int)(h:mixQ i j k=(m,e))(w:World):zR 213 #[.agg (blk i.ws),.agg (blk j.ws),k] w (.tuple #[.agg (blk m.ws),e]):=by
 have:=FB i j b a k w;rw[h] at this;exact this
theorem FG(m:Iq)(h:m.Sml 205)(o:El)(e:Int)(a:ellI m=(o,e))(w:World):zR 214 #[.agg (blk m.ws)] w (.tuple #[elV o,e]):=by
 have:=FI m h w;rw[a] at this;exact this
theorem ug(i j:Iq)(J:i.Sml 120)(D:j.Sml 120)(k b:Int)(v:(mixQ i j k).1.Sml 205)(w:World):zR 160 #[.agg (blk i.ws),.agg (blk j.ws),k,b] w (.tuple #[elV (bU i j k b).1,.int .i64 (bU i j k b).2]):=by
 obtain⟨m,e,q⟩:∃m e,mixQ i j k=(m,e):=⟨_,_,rfl⟩;have u:bU i j k b=if b=0 then (if e=0 then ellI m else (El.zero,1)) else (El.zero,1):=by unfold bU;rw[q]
 rw[q] at v;have HQ:=Lh q;have C:=Lh J;have B:=Lh D;have I:=Lh v;clear q J D v;have P:i.ws.length=7:=rfl;have S:j.ws.length=7:=rfl;have O:m.ws.length=7:=rfl;obtain⟨T,s⟩:∃l,l=i.ws:=⟨_,rfl⟩;obtain⟨R,p⟩:∃l,l=j.ws:=⟨_,rfl⟩;obtain⟨M,r⟩:∃l,l=m.ws:=⟨_,rfl⟩
 have x:Hid (∀w,zR 213 #[.agg (blk T),.agg (blk R),k] w (.tuple #[.agg (blk M),e])):=by
  rw[s,p,r];exact fun w=>FA i j m e C.out B.out k HQ.out w
 obtain⟨⟨N,H,K,G,L⟩,f,t⟩:∃o f,ellI m=(o,f):=⟨_,_,rfl⟩
 have Q:Hid (∀w,zR 214 #[.agg (blk M)] w (.tuple #[elC N H K G L,f])):=by
  rw[r];exact fun w=>FG m I.out _ _ t w
 rw[<-s] at P;rw[<-p] at S;rw[<-r] at O;rw[<-s,<-p];rw[t] at u;have E:=Lh u;clear u t s p r HQ C B I;by_cases A:b=0
 ·subst A;by_cases z:e=0
  ·subst z;go_enter func160,ntmps160;go_wp2_with fail;refine(x.out _).mono ?_;rintro e F ⟨rfl,a⟩;have c:=a.size;(try simp at c);have d:=bq3 a (w.heap.size);go_wp2_with fail;refine(Q.out _).mono ?_;rintro e V ⟨rfl,h⟩;have g:=h.size;(try simp at g);have n:=bq3 h (w.heap.size);go_wp2_with fail;exact rT 5 #[.int .i64 N,.int .i64 H,.int .i64 K,.int .i64 G,.int .i64 L] (.int .i64 f) ⟨by rw[E.out];rfl,ad⟩
  ·have U:(e != 0)=true:=by simp[z]
   have y:Hid (bU i j k 0=(El.zero,1)):=by show _=_;rw[E.out,if_pos rfl,if_neg z]
   clear E;go_enter func160,ntmps160;go_wp2_with fail;refine(x.out _).mono ?_;rintro e F ⟨rfl,a⟩;have c:=a.size;(try simp at c);have d:=bq3 a (w.heap.size);go_wp2_with fail;exact rT 5 z5 (.int .i64 1) ⟨by rw[y.out];rfl,ad⟩
 ·have nb:(b != 0)=true:=by simp[A]
  have y:Hid (bU i j k b=(El.zero,1)):=by show _=_;rw[E.out,if_neg A]
  clear E;go_enter func160,ntmps160;go_wp2_with fail;refine(x.out _).mono ?_;rintro e F ⟨rfl,a⟩;have c:=a.size;(try simp at c);have d:=bq3 a (w.heap.size);go_wp2_with fail;exact rT 5 z5 (.int .i64 1) ⟨by rw[y.out];rfl,ad⟩
def Iq.hom(i:Iq)(p q t:Int):Int:=i.A*(p*p)+2*(i.B*(p*q))+i.D*(q*q)-2*((i.U*p+i.V*q)*t)+i.Z*(t*t)
theorem mG(e:El)(p q t:Int):(ofEl e).hom p q t=form e.d (-e.b) e.a (p-e.x*t) (q-e.y*t):=by
 unfold Iq.hom ofEl form;grind
theorem KS(s:St)(p q t:Int):(iZ s).hom p q t=(2*s.hx*p+2*s.hy*q-s.m*t)*(2*s.hx*p+2*s.hy*q-s.m*t):=by
 unfold Iq.hom iZ;simp only;grind
theorem uo(i j:Iq)(k p q t:Int):(mixI i j k).hom p q t=k*j.N*i.hom p q t+(34-k)*i.N*j.hom p q t:=by
 unfold Iq.hom mixI;simp only;grind
theorem oc(i j:Iq)(k:Int):mixI i j k=mixI j i (34-k):=by
 unfold mixI;have h:34-(34-k)=k:=by omega
 rw[h];congr 1<;>grind
theorem qW(i:Iq)(p q t:Int):form i.A i.B i.D (i.d*p-i.x*t) (i.d*q-i.y*t)=i.d*(i.d*(i.hom p q t-i.N*(t*t))+i.lv*(t*t)):=by
 unfold form Iq.hom Iq.lv Iq.x Iq.y Iq.d;grind
theorem mL(a b d h k:Int)(f:0<a)(j:0<a*d-b*b):0<=form a b d h k:=by
 have e:a*form a b d h k=(a*h+b*k)*(a*h+b*k)+(a*d-b*b)*(k*k):=by unfold form;grind
 have i:=ax (a*h+b*k);have g:=Int.mul_nonneg (show 0<=a*d-b*b by omega) (ax k);have c:a*0<=a*form a b d h k:=by rw[e,Int.mul_zero];omega
 exact Int.le_of_mul_le_mul_left c f
theorem wE(i:Iq)(f:0<i.d)(g:0<=i.lv):i.hom i.x i.y i.d<=i.N*(i.d*i.d):=by
 have a:=qW i i.x i.y i.d;have c:i.d*i.x-i.x*i.d=0:=by grind
 have j:i.d*i.y-i.y*i.d=0:=by grind
 have b:form i.A i.B i.D 0 0=0:=by unfold form;simp
 rw[c,j,b] at a
 have l:i.d*(i.hom i.x i.y i.d-i.N*(i.d*i.d))+i.lv*(i.d*i.d)=0:=by
  rcases Int.mul_eq_zero.1 a.symm with h|h
  ·omega
  ·exact h
 have k:=Int.mul_nonneg g (ax i.d);have e:i.d*(i.hom i.x i.y i.d-i.N*(i.d*i.d))<=i.d*0:=by rw[Int.mul_zero];omega
 have:=Int.le_of_mul_le_mul_left e f;omega
theorem vQ(i:Iq)(c:0<i.A)(b:0<i.d)(p q:Int)(h:i.hom p q 1<=i.N):0<=i.lv/\form i.A i.B i.D (i.d*p-i.x) (i.d*q-i.y)<=i.d*i.lv:=by
 have a:=qW i p q 1;rw[Int.mul_one,Int.mul_one,Int.mul_one,Int.mul_one,Int.mul_one] at a;have j:=mL i.A i.B i.D (i.d*p-i.x) (i.d*q-i.y) c b;have f:=Int.mul_nonneg (show 0<=i.d by omega) (show 0<=i.N-i.hom p q 1 by omega);have e:i.d*(i.d*(i.hom p q 1-i.N)+i.lv)=i.d*i.lv-i.d*(i.d*(i.N-i.hom p q 1)):=by grind
 have k:=Int.mul_nonneg (show 0<=i.d by omega) f;rw[e] at a;refine⟨?_,by omega⟩;have g:i.d*0<=i.d*i.lv:=by rw[Int.mul_zero];omega
 exact Int.le_of_mul_le_mul_left g b
theorem BP(a b d x y h k:Int)(_ha:0<a)(_hd:0<a*d-b*b):(a*d-b*b)*((x*h+y*k)*(x*h+y*k))<=form a b d x y*form d (-b) a h k:=by
 have e:form a b d x y*form d (-b) a h k=(a*d-b*b)*((x*h+y*k)*(x*h+y*k))+(k*(a*x+b*y)-h*(b*x+d*y))*(k*(a*x+b*y)-h*(b*x+d*y)):=by
  unfold form;grind
 have:=ax (k*(a*x+b*y)-h*(b*x+d*y));omega
theorem mv(e:El)(h:e.may=true):0<(ofEl e).A/\0<(ofEl e).D/\0<(ofEl e).d/\0<(ofEl e).N:=by
 have m:=(El.aQ e).1 h;have c:(ofEl e).d=e.a*e.d-e.b*e.b:=by unfold Iq.d ofEl;simp only;grind
 exact⟨by show 0<e.d;omega,by show 0<e.a;omega,by rw[c];omega,by show 0<e.a*e.d-e.b*e.b;omega⟩
theorem zw(a b d u v T:Int)(k:0<a)(c:0<a*d-b*b)(h:form d (-b) a u v<=T*(a*d-b*b)):u*u<=T*a:=by
 have e:a*form d (-b) a u v=(a*d-b*b)*(u*u)+(a*v-b*u)*(a*v-b*u):=by unfold form;grind
 have j:=ax (a*v-b*u);have g:=Int.mul_le_mul_of_nonneg_left h (show 0<=a by omega);have i:a*(T*(a*d-b*b))=(a*d-b*b)*(T*a):=by grind
 have f:(a*d-b*b)*(u*u)<=(a*d-b*b)*(T*a):=by omega
 exact Int.le_of_mul_le_mul_left f c
theorem Eo(a b d u v T:Int)(c:0<d)(g:0<a*d-b*b)(h:form d (-b) a u v<=T*(a*d-b*b)):v*v<=T*d:=by
 have e:form d (-b) a u v=form a (-b) d v u:=by unfold form;grind
 rw[e] at h;have f:a*d-b*b=d*a-b*b:=by grind
 exact zw d b a v u T c (by omega) (by rw[f] at h;exact h)
theorem gv(e:El)(h:e.may=true)(u v:Int):0<=form e.d (-e.b) e.a u v:=by
 have m:=(El.aQ e).1 h;have c:e.d*e.a - -e.b * -e.b=e.a*e.d-e.b*e.b:=by grind
 exact mL _ _ _ _ _ (by omega) (by omega)
theorem rx(e:El)(p:e.may=true)(j:Iq)(g:0<j.N)(k:Int)(s:1<=k)(r:k<=34)(X Y t:Int)(l:0<=j.hom X Y t)(h:(mixI (ofEl e) j k).hom X Y t<=(mixI (ofEl e) j k).N*(t*t)):k*form e.d (-e.b) e.a (X-e.x*t) (Y-e.y*t)<=34*(t*t)*(e.a*e.d-e.b*e.b):=by
 have o:=mv e p;have m:(ofEl e).N=e.a*e.d-e.b*e.b:=rfl;rw[uo,mG] at h;have f:(mixI (ofEl e) j k).N=34*((ofEl e).N*j.N):=rfl;rw[f] at h;rw[<-m];obtain⟨F,hF⟩:∃F,form e.d (-e.b) e.a (X-e.x*t) (Y-e.y*t)=F:=⟨_,rfl⟩;obtain⟨N,c⟩:∃F,(ofEl e).N=F:=⟨_,rfl⟩;rw[hF] at h ⊢;rw[c] at h ⊢;have i:0<N:=by rw[<-c];exact o.2.2.2
 have q:0<=(34-k)*N*j.hom X Y t:=Int.mul_nonneg (Int.mul_nonneg (by omega) (by omega)) l;have u:34*(N*j.N)*(t*t)=j.N*(34*(t*t)*N):=by grind
 have v:k*j.N*F=j.N*(k*F):=by grind
 have n:j.N*(k*F)<=j.N*(34*(t*t)*N):=by omega
 exact Int.le_of_mul_le_mul_left n g
theorem AI{z m:Int}(a:0<=m)(h:z*z<=m*m):-m<=z/\z<=m:=qg a h
theorem nU(X d c:Int)(o:0<d)(b : -4194304<=c/\c<=4194304)(h:(X-c*d)*(X-c*d)<=34*(d*d)*70368744177664):(cf X d).2=0:=by
 have i:(X-c*d)*(X-c*d)<=(67108864*d)*(67108864*d):=by
  have j:=ax d;have e:(67108864*d)*(67108864*d)=4503599627370496*(d*d):=by grind
  rw[e];omega
 have n:=AI (by omega) i;have p:=Int.mul_le_mul_of_nonneg_right b.1 (show 0<=d by omega);have l:=Int.mul_le_mul_of_nonneg_right b.2 (show 0<=d by omega);have f:=cI (2*X+d) (2*d) (by omega);obtain⟨Q,g⟩:∃Q,(2*X+d).fdiv (2*d)=Q:=⟨_,rfl⟩;rw[g] at f
 have m:Q<=1073741824:=by
  rcases Int.lt_or_le 1073741824 Q with a|a
  ·have:=Int.mul_le_mul_of_nonneg_left (show 1073741825<=Q by omega) (show 0<=2*d by omega);omega
  ·exact a
 have k : -1073741824<=Q:=by
  rcases Int.lt_or_le Q (-1073741824) with a|a
  ·have:=Int.mul_le_mul_of_nonneg_left (show Q <= -1073741825 by omega) (show 0<=2*d by omega);omega
  ·exact a
 unfold cf;rw[g];unfold dS;rw[if_pos (by omega)]
structure Iq.Cls (zs ns:Nat) (i:Iq):Prop where
 A:Sm 80 i.A
 B:Sm 80 i.B
 D:Sm 80 i.D
 U:Sm 80 i.U
 V:Sm 80 i.V
 Z:Sm zs i.Z
 N:Sm ns i.N
theorem bM(n:Nat):Sm n 0:=Nat.zero_le _
theorem Iq.pU(a b:Nat):Iq.zero.Cls a b:=⟨bM _,bM _,bM _,bM _,bM _,bM _,bM _⟩
theorem Iq.Cls.sml{a b:Nat}{i:Iq}(h:i.Cls a b)(d:a<=120)(c:b<=120):i.Sml 120:=
 ⟨h.A.mono (by decide),h.B.mono (by decide),h.D.mono (by decide),h.U.mono (by decide),h.V.mono (by decide),h.Z.mono d,h.N.mono c⟩
theorem el(e:El):(ofE e).1.Cls 93 93:=by
 unfold ofE;split
 ·rename_i h;have m:=(El.aQ e).1 h;have f:Sm 22 e.x:=by show e.x.natAbs<=2^22;omega
  have g:Sm 22 e.y:=by show e.y.natAbs<=2^22;omega
  have j:Sm 46 e.a:=by show e.a.natAbs<=2^46;omega
  have c:Sm 46 e.b:=by show e.b.natAbs<=2^46;omega
  have i:Sm 46 e.d:=by show e.d.natAbs<=2^46;omega
  refine⟨i.mono (by decide),c.neg.mono (by decide),j.mono (by decide),((i.mul f).add (c.neg.mul g)).mono (by decide),((c.neg.mul f).add (j.mul g)).mono (by decide),?_,?_⟩
  ·exact(((i.mul (f.mul f)).add (j.mul (g.mul g))).add ((c.neg.mul (f.mul g)).add (c.neg.mul (f.mul g)))).mono (by decide)
  ·exact((j.mul i).sub (c.mul c)).mono (by decide)
 ·exact Iq.pU _ _
theorem mo(s:St):(ofSt s).1.Cls 105 103:=by
 unfold ofSt;split
 ·rename_i h;obtain⟨k,p,-,o,g,i⟩:=(St.aQ s).1 h;have a:Sm 25 (2*s.hx):=by show(2*s.hx).natAbs<=2^25;omega
  have b:Sm 25 (2*s.hy):=by show(2*s.hy).natAbs<=2^25;omega
  have f:Sm 22 s.ox:=by show s.ox.natAbs<=2^22;omega
  have e:Sm 22 s.oy:=by show s.oy.natAbs<=2^22;omega
  have l:Sm 51 (s.lo+s.hi):=by show(s.lo+s.hi).natAbs<=2^51;omega
  have d:Sm 51 (s.hi-s.lo):=by show(s.hi-s.lo).natAbs<=2^51;omega
  have c:Sm 52 s.m:=by
   have j:=a.mul f;have n:=b.mul e;unfold Sm at *;unfold St.m;omega
  exact⟨(a.mul a).mono (by decide),(a.mul b).mono (by decide),(b.mul b).mono (by decide),(c.mul a).mono (by decide),(c.mul b).mono (by decide),(c.mul c).mono (by decide),(d.mul d).mono (by decide)⟩
 ·exact Iq.pU _ _
theorem qM{i j:Iq}{a b c d:Nat}(g:i.Cls a b)(f:j.Cls c d)(k:Int)(v:0<=k)(u:k<=34)(q:a+d<=198)(r:c+b<=198)(s:b<=118)(t:d<=118)(p:b+d<=199):(mixI i j k).Sml 205:=by
 have n:Sm 6 k:=by show k.natAbs<=2^6;omega
 have o:Sm 6 (34-k):=by show(34-k).natAbs<=2^6;omega
 have h:Sm 6 34:=by show(34:Int).natAbs<=2^6;decide
 have P:=n.mul f.N;have Q:=o.mul g.N
 have e:∀x y,Sm 80 x->Sm 80 y->Sm 205 (x*(k*j.N)+y*((34-k)*i.N)):=fun x y m l=>
  ((m.mul P).mono (show 80+(6+d)<=204 by omega)).add ((l.mul Q).mono (show 80+(6+b)<=204 by omega))
 refine⟨e _ _ g.A f.A,e _ _ g.B f.B,e _ _ g.D f.D,e _ _ g.U f.U,e _ _ g.V f.V,?_,?_⟩
 ·exact((g.Z.mul P).mono (show a+(6+d)<=204 by omega)).add ((f.Z.mul Q).mono (show c+(6+b)<=204 by omega))
 ·exact(h.mul (g.N.mul f.N)).mono (by omega)
def Iq.Fits(i:Iq):Prop:=0<i.A->0<i.d->0<=i.lv->(cf i.x i.d).2=0/\(cf i.y i.d).2=0
theorem nZ(e:El)(g:e.may=true)(j:Iq)(o:0<j.N)(p:∀X Y t,0<=j.hom X Y t)(k:Int)(l:1<=k)(n:k<=34):(mixI (ofEl e) j k).Fits:=by
 intro A f r;have m:=(El.aQ e).1 g;have c:=wE _ f r;have u:=rx e g j o k l n _ _ _ (p _ _ _) c;generalize v:mixI (ofEl e) j k=i at *;have q:=gv e g (i.x-e.x*i.d) (i.y-e.y*i.d);have D:=Int.mul_le_mul_of_nonneg_right l q;have h:form e.d (-e.b) e.a (i.x-e.x*i.d) (i.y-e.y*i.d)<=34*(i.d*i.d)*(e.a*e.d-e.b*e.b):=by omega
 have C:=zw _ _ _ _ _ _ (by omega) m.2.2 h;have s:=Eo _ _ _ _ _ _ (by omega) m.2.2 h;have w:=ax i.d;have z:=Int.mul_le_mul_of_nonneg_left (show e.a<=70368744177664 by omega) (show 0<=34*(i.d*i.d) by omega);have B:=Int.mul_le_mul_of_nonneg_left (show e.d<=70368744177664 by omega) (show 0<=34*(i.d*i.d) by omega);exact⟨nU _ _ e.x f ⟨by omega,by omega⟩ (by omega),nU _ _ e.y f ⟨by omega,by omega⟩ (by omega)⟩
theorem uU:Iq.zero.Fits:=fun h=>absurd h (by decide)
theorem gf(j:Iq)(k:Int):(mixI Iq.zero j k).Fits:=by
 intro h;have:(mixI Iq.zero j k).A=0:=by unfold mixI Iq.zero;simp only;grind
 omega
theorem kL(j:Iq)(k:Int):(mixI j Iq.zero k).Fits:=by
 rw[oc];exact gf _ _
theorem iv(e:El)(h:e.may=true)(X Y t:Int):0<=(ofEl e).hom X Y t:=by rw [mG];exact gv e h _ _
theorem Jc(s:St)(X Y t:Int):0<=(iZ s).hom X Y t:=by rw [KS];exact ax _
theorem UJ(s:St)(h:s.may=true):0<(iZ s).N:=by
 obtain⟨-,-,-,c,a,b⟩:=(St.aQ s).1 h;exact Int.mul_pos (by omega) (by omega)
theorem vX(e f:El)(k:Int):(mixQ (ofE e).1 (ofE f).1 k).1.Fits:=by
 unfold mixQ;split
 ·rename_i b;show(mixI (ofE e).1 (ofE f).1 k).Fits;cases he:e.may with
  | false => have : ofE e = (Iq.zero, 1) := by unfold ofE; rw[if_neg (by rw[he]; decide)]
             rw[this];exact gf _ _
  | true=>
   have a:ofE e=(ofEl e,0):=by unfold ofE;rw[if_pos he]
   cases hf:f.may with
   | false => have : ofE f = (Iq.zero, 1) := by unfold ofE; rw[if_neg (by rw[hf]; decide)]
              rw[this];exact kL _ _
   | true=>
    have d:ofE f=(ofEl f,0):=by unfold ofE;rw[if_pos hf]
    rw[a,d];by_cases c:1<=k
    ·exact nZ e he _ (mv f hf).2.2.2 (iv f hf) k c b.2
    ·rw[oc];exact nZ f hf _ (mv e he).2.2.2 (iv e he) _ (by omega) (by omega)
 ·exact uU
theorem Qi(e:El)(s:St)(k:Int):(mixQ (ofE e).1 (ofSt s).1 k).1.Fits:=by
 unfold mixQ;split
 ·rename_i c;show(mixI (ofE e).1 (ofSt s).1 k).Fits;cases he:e.may with
  | false => have : ofE e = (Iq.zero, 1) := by unfold ofE; rw[if_neg (by rw[he]; decide)]
             rw[this];exact gf _ _
  | true=>
   have b:ofE e=(ofEl e,0):=by unfold ofE;rw[if_pos he]
   cases hf:s.may with
   | false => have : ofSt s = (Iq.zero, 1) := by unfold ofSt; rw[if_neg (by rw[hf]; decide)]
              rw[this];exact kL _ _
   | true=>
    have g:ofSt s=(iZ s,0):=by unfold ofSt;rw[if_pos hf]
    rw[b,g];by_cases f:1<=k
    ·exact nZ e he _ (UJ s hf) (Jc s) k f c.2
    ·show(mixI (ofEl e) (iZ s) k).Fits;intro h i;have a:k=0:=by omega
     subst a;have:(mixI (ofEl e) (iZ s) 0).d=0:=by unfold Iq.d mixI iZ;simp only;grind
     omega
 ·exact uU
theorem rc(e f:El)(k:Int):(mixQ (ofE e).1 (ofE f).1 k).1.Sml 205:=by
 unfold mixQ;split
 ·rename_i a;exact qM (el e) (el f) k a.1 a.2 (by decide) (by decide) (by decide) (by decide) (by decide)
 ·exact⟨bM _,bM _,bM _,bM _,bM _,bM _,bM _⟩
theorem uK(e:El)(s:St)(k:Int):(mixQ (ofE e).1 (ofSt s).1 k).1.Sml 205:=by
 unfold mixQ;split
 ·rename_i a;exact qM (el e) (mo s) k a.1 a.2 (by decide) (by decide) (by decide) (by decide) (by decide)
 ·exact⟨bM _,bM _,bM _,bM _,bM _,bM _,bM _⟩
theorem jf{z:Int}(h:(dS z).2=0):(dS z).1=z:=by
 unfold dS at *;split at h
 ·rename_i a;rw[if_pos a]
 ·cases h
theorem gB(z:Int):(dS z).2=0∨(dS z).2=2:=by
 unfold dS;split
 ·exact .inl rfl
 ·exact .inr rfl
theorem vf(e f:El):(sumE e f).2=0∨(sumE e f).2=1∨(sumE e f).2=2:=by
 unfold sumE;split
 ·split
  ·exact .inl rfl
  ·exact .inr (.inr rfl)
 ·exact .inr (.inl rfl)
theorem sU(e:El)(r:Int):(growE e r).2=0∨(growE e r).2=1∨(growE e r).2=2:=by
 unfold growE;split
 ·split
  ·exact .inl rfl
  ·exact vf _ _
 ·exact .inr (.inl rfl)
theorem rj(c cy a b d e:Int):(cm c cy a b d e).2=0∨(cm c cy a b d e).2=1∨(cm c cy a b d e).2=2:=by
 unfold cm;split
 ·exact .inr (.inr rfl)
 ·split
  ·exact sU _ _
  ·exact .inr (.inr rfl)
theorem oG{c cy a b d e:Int}{o:El}(h:cm c cy a b d e=(o,0)):e=0/\growE ⟨c,cy,a+1,b,d+1⟩ 1=(o,0):=by
 unfold cm at h;split at h
 ·injection h with _ h2;cases h2
 ·rename_i f;split at h
  ·exact⟨by omega,h⟩
  ·injection h with _ h2;cases h2
theorem nT(x d:Int)(a:0<d):-d<=2*(x-d*(2*x+d).fdiv (2*d))/\2*(x-d*(2*x+d).fdiv (2*d))<=d:=by
 have f:=cI (2*x+d) (2*d) (by omega);have e:2*d*(2*x+d).fdiv (2*d)=2*(d*(2*x+d).fdiv (2*d)):=by grind
 omega
theorem yw(s t d h k:Int)(_hd:0<d)(o : -d<=2*s)(e:2*s<=d)(i : -d<=2*t)(r:2*t<=d):(s*h+t*k)*(s*h+t*k)<=d*d*form 1 0 1 h k:=by
 have p:=Int.mul_nonneg (show 0<=d-2*s by omega) (show 0<=d+2*s by omega);have f:=Int.mul_nonneg (show 0<=d-2*t by omega) (show 0<=d+2*t by omega);have g:(d-2*s)*(d+2*s)=d*d-4*(s*s):=by grind
 have n:(d-2*t)*(d+2*t)=d*d-4*(t*t):=by grind
 have q:0<=h*h+k*k:=by have:=ax h;have:=ax k;omega
 have l:=ax s;have c:=ax t;have u:=Int.mul_nonneg (show 0<=d*d-s*s-t*t by omega) q;have b:form 1 0 1 h k=h*h+k*k:=by unfold form;grind
 have a:(s*h+t*k)*(s*h+t*k)=(s*s+t*t)*(h*h+k*k)-(s*k-t*h)*(s*k-t*h):=by grind
 have m:=ax (s*k-t*h);have j:(d*d-s*s-t*t)*(h*h+k*k)=d*d*(h*h+k*k)-(s*s+t*t)*(h*h+k*k):=by grind
 rw[b,a];omega
theorem tu(i:Iq)(_hk:i.Fits)(p q:Int)(W : -1073741824<=p/\p<=1073741824/\-1073741824<=q/\q<=1073741824)(h:i.hom p q 1<=i.N){o:El}{e:Int}(j:ellI i=(o,e)):e≠3/\(e=0->o.has p q=true):=by
 unfold ellI at j;split at j
 ·injection j with _ h2;subst h2;exact⟨by decide,fun h=>by cases h⟩
 ·rename_i h1;have I:0<i.A:=by omega
  have g:0<i.d:=by omega
  obtain⟨hl,Q⟩:=vQ i I g p q h;rw[if_neg (by omega)] at j;refine⟨?_,?_⟩
  ·have:=rj (cf i.x i.d).1 (cf i.y i.d).1 (cD (i.lv*i.D) (i.d*i.d)).1 (db (-(i.lv*i.B)) (i.d*i.d)).1 (cD (i.lv*i.A) (i.d*i.d)).1 (max (max (max (max (max 0 (cf i.x i.d).2) (cf i.y i.d).2) (cD (i.lv*i.D) (i.d*i.d)).2) (cD (i.lv*i.A) (i.d*i.d)).2) (db (-(i.lv*i.B)) (i.d*i.d)).2);rw[j] at this;simp only at this;omega
  ·rintro rfl;obtain⟨he,C⟩:=oG j;have f1:=gB ((2*i.x+i.d).fdiv (2*i.d));have f2:=gB ((2*i.y+i.d).fdiv (2*i.d));have f3:=gB (cdiv (i.lv*i.D) (i.d*i.d));have f4:=gB (cdiv (i.lv*i.A) (i.d*i.d));have f5:=gB ((-(i.lv*i.B)).fdiv (i.d*i.d));have g1:(cf i.x i.d).2=0:=by unfold cf cD db at *;omega
   have V:(cf i.y i.d).2=0:=by unfold cf cD db at *;omega
   have g3:(cD (i.lv*i.D) (i.d*i.d)).2=0:=by unfold cf cD db at *;omega
   have g4:(cD (i.lv*i.A) (i.d*i.d)).2=0:=by unfold cf cD db at *;omega
   have J:(db (-(i.lv*i.B)) (i.d*i.d)).2=0:=by unfold cf cD db at *;omega
   have v1:(cf i.x i.d).1=(2*i.x+i.d).fdiv (2*i.d):=jf g1;have v2:(cf i.y i.d).1=(2*i.y+i.d).fdiv (2*i.d):=jf V;have O:(cD (i.lv*i.D) (i.d*i.d)).1=cdiv (i.lv*i.D) (i.d*i.d):=jf g3;have v4:(cD (i.lv*i.A) (i.d*i.d)).1=cdiv (i.lv*i.A) (i.d*i.d):=jf g4;have Y:(db (-(i.lv*i.B)) (i.d*i.d)).1=(-(i.lv*i.B)).fdiv (i.d*i.d):=jf J;rw[v1,v2,O,v4,Y] at C;obtain⟨-,-,-,⟨h0,-⟩|⟨-,H⟩⟩:=mI C
   ·cases h0
   have K:=H;obtain⟨z,hB,rfl,t⟩:=oN H;have v:=nT i.x i.d g;have n:=nT i.y i.d g;obtain⟨f,s⟩:∃c,(2*i.x+i.d).fdiv (2*i.d)=c:=⟨_,rfl⟩;obtain⟨cy,w⟩:∃c,(2*i.y+i.d).fdiv (2*i.d)=c:=⟨_,rfl⟩;rw[s] at v z t ⊢;rw[w] at n z t ⊢;have m:0<i.d*i.d:=Int.mul_pos g g;refine(El.has_iff _ _ _).2 ⟨t,W,(sL _ _ _ _ _).2 fun a b=>?_⟩;have P:=dH (i.lv*i.D) (i.d*i.d) m;have R:=dH (i.lv*i.A) (i.d*i.d) m;have G:=cI (-(i.lv*i.B)) (i.d*i.d) m;have F : -(i.lv*i.B)=i.lv * -i.B:=by grind
   have pf:=jC (i.d*i.d) i.lv i.D (-i.B) i.A (cdiv (i.lv*i.D) (i.d*i.d)) ((-(i.lv*i.B)).fdiv (i.d*i.d)) (cdiv (i.lv*i.A) (i.d*i.d)) a b P.1 R.1 (by rw[<-F];exact G.1) (by rw[<-F];exact G.2);have u:=BP i.A i.B i.D (i.d*p-i.x) (i.d*q-i.y) a b I g
   have S:0<=form i.D (-i.B) i.A a b:=by
    have T:0<i.D:=by
     rcases Int.lt_or_le 0 i.D with E|E
     ·exact E
     ·have h6:=Int.mul_nonneg (show 0<=i.A by omega) (show 0 <= -i.D by omega);have h7:=ax i.B;have h8:i.A * -i.D=-(i.A*i.D):=by grind
      have h9:0<i.A*i.D-i.B*i.B:=g;omega
    refine mL _ _ _ _ _ T ?_;have h9:0<i.A*i.D-i.B*i.B:=g;have a1:i.D*i.A - -i.B * -i.B=i.A*i.D-i.B*i.B:=by grind
    omega
   have L:=Int.mul_le_mul_of_nonneg_right Q S
   have r:i.d*(((i.d*p-i.x)*a+(i.d*q-i.y)*b)*((i.d*p-i.x)*a+(i.d*q-i.y)*b))<=i.d*(i.lv*form i.D (-i.B) i.A a b):=by
    have e4:i.d*i.lv*form i.D (-i.B) i.A a b=i.d*(i.lv*form i.D (-i.B) i.A a b):=by grind
    have M:i.A*i.D-i.B*i.B=i.d:=rfl;rw[M] at u;omega
   have a0:=Int.le_of_mul_le_mul_left r g;have U:=yw (i.x-i.d*f) (i.y-i.d*cy) i.d a b g v.1 v.2 n.1 n.2;have k:=ve _ _ z hB a b ((i.d*p-i.x)*a+(i.d*q-i.y)*b) ((i.x-i.d*f)*a+(i.y-i.d*cy)*b) (i.d*i.d) (by omega) (by show _<=i.d*i.d*form (cdiv (i.lv*i.D) (i.d*i.d)+1) ((-(i.lv*i.B)).fdiv (i.d*i.d)) (cdiv (i.lv*i.A) (i.d*i.d)+1) a b;omega) U;have e6:((i.d*p-i.x)*a+(i.d*q-i.y)*b+((i.x-i.d*f)*a+(i.y-i.d*cy)*b))*((i.d*p-i.x)*a+(i.d*q-i.y)*b+((i.x-i.d*f)*a+(i.y-i.d*cy)*b))=i.d*i.d*(((p-f)*a+(q-cy)*b)*((p-f)*a+(q-cy)*b)):=by grind
   rw[e6] at k;have l:=Int.le_of_mul_le_mul_left k m;have Z:(dV ⟨f,cy,cdiv (i.lv*i.D) (i.d*i.d)+1,(-(i.lv*i.B)).fdiv (i.d*i.d),cdiv (i.lv*i.A) (i.d*i.d)+1⟩ ⟨0,0,1*1,0,1*1⟩).x=f:=by show f+0=f;omega
   have X:(dV ⟨f,cy,cdiv (i.lv*i.D) (i.d*i.d)+1,(-(i.lv*i.B)).fdiv (i.d*i.d),cdiv (i.lv*i.A) (i.d*i.d)+1⟩ ⟨0,0,1*1,0,1*1⟩).y=cy:=by show cy+0=cy;omega
   rw[Z,X];exact l
def fuseE(e f:El)(k:Int):El×Int:=bU (ofE e).1 (ofE f).1 k (max (ofE e).2 (ofE f).2)
def cutE(e:El)(s:St)(k:Int):El×Int:=bU (ofE e).1 (ofSt s).1 k (max (ofE e).2 (ofSt s).2)
theorem of_v(x y a b d:Int)(L:List WI)(e:Int)(f:(ofE ⟨x,y,a,b,d⟩).1.ws=L)(c:(ofE ⟨x,y,a,b,d⟩).2=e)(w:World):zR 159 #[elC x y a b d] w (.tuple #[.agg (blk L),e]):=by
 subst f;subst c;exact yu ⟨x,y,a,b,d⟩ w
theorem DC(a b c d l h:Int)(L:List WI)(e:Int)(g:(ofSt ⟨a,b,c,d,l,h⟩).1.ws=L)(f:(ofSt ⟨a,b,c,d,l,h⟩).2=e)(w:World):zR 357 #[stC a b c d l h] w (.tuple #[.agg (blk L),e]):=by
 subst g;subst f;exact vI ⟨a,b,c,d,l,h⟩ w
theorem D2(x y a b d c g i j h k:Int)(w:World):zR 91 #[elC x y a b d,elC c g i j h,k] w (.tuple #[elV (fuseE ⟨x,y,a,b,d⟩ ⟨c,g,i,j,h⟩ k).1,.int .i64 (fuseE ⟨x,y,a,b,d⟩ ⟨c,g,i,j,h⟩ k).2]):=by
 obtain⟨L,C⟩:∃l,(ofE ⟨x,y,a,b,d⟩).1.ws=l:=⟨_,rfl⟩;obtain⟨I,A⟩:∃l,(ofE ⟨c,g,i,j,h⟩).1.ws=l:=⟨_,rfl⟩;obtain⟨t,J⟩:∃e,(ofE ⟨x,y,a,b,d⟩).2=e:=⟨_,rfl⟩;obtain⟨B,D⟩:∃e,(ofE ⟨c,g,i,j,h⟩).2=e:=⟨_,rfl⟩;have T:L.length=7:=by rw[<-C];rfl
 have W:I.length=7:=by rw[<-A];rfl
 have S:Hid (∀w,zR 159 #[elC x y a b d] w (.tuple #[.agg (blk L),t])):=of_v _ _ _ _ _ _ _ C J;have O:Hid (∀w,zR 159 #[elC c g i j h] w (.tuple #[.agg (blk I),B])):=of_v _ _ _ _ _ _ _ A D;obtain⟨⟨N,G,K,F,M⟩,f,H⟩:∃o f,fuseE ⟨x,y,a,b,d⟩ ⟨c,g,i,j,h⟩ k=(o,f):=⟨_,_,rfl⟩
 have Q:Hid (∀w,zR 160 #[.agg (blk L),.agg (blk I),k,.int .i64 (max t B)] w (.tuple #[elC N G K F M,f])):=by
  intro w;have:=ug (ofE ⟨x,y,a,b,d⟩).1 (ofE ⟨c,g,i,j,h⟩).1 ((el _).sml (by decide) (by decide)) ((el _).sml (by decide) (by decide)) k (max t B) (rc _ _ k) w;have e:bU (ofE ⟨x,y,a,b,d⟩).1 (ofE ⟨c,g,i,j,h⟩).1 k (max t B)=(⟨N,G,K,F,M⟩,f):=by rw[<-J,<-D];exact H
  rw[e] at this;rw[<-C,<-A];exact this
 have R:=Lh H;clear H C A J D;go_enter func91,ntmps91;go_wp2_with fail;refine(S.out _).mono ?_;rintro e P ⟨rfl,r⟩;have s:=r.size;(try simp at s);have v:=bq3 r (w.heap.size);go_wp2_with fail;refine(O.out _).mono ?_;rintro e V ⟨rfl,m⟩;have n:=m.size;(try simp at n);have z:=bq3 m (w.heap.size);have E:=bq m (P.heap.size);go_wp2_with fail;refine(Q.out _).mono ?_;rintro e U ⟨rfl,p⟩;have q:=p.size;(try simp at q);have u:=bq3 p (w.heap.size);go_wp2_with fail;exact rT 5 #[.int .i64 N,.int .i64 G,.int .i64 K,.int .i64 F,.int .i64 M] (.int .i64 f) ⟨by rw[R.out],ad⟩
theorem D0(x y a b d c e j i g k p m n l o f:Int)(h:fuseE ⟨x,y,a,b,d⟩ ⟨c,e,j,i,g⟩ k=(⟨p,m,n,l,o⟩,f))(w:World):zR 91 #[elC x y a b d,elC c e j i g,k] w (.tuple #[elC p m n l o,f]):=by
 have:=D2 x y a b d c e j i g k w;rw[h] at this;exact this
theorem FO(x y a b d p q r s l h k:Int)(w:World):zR 354 #[elC x y a b d,stC p q r s l h,k] w (.tuple #[elV (cutE ⟨x,y,a,b,d⟩ ⟨p,q,r,s,l,h⟩ k).1,.int .i64 (cutE ⟨x,y,a,b,d⟩ ⟨p,q,r,s,l,h⟩ k).2]):=by
 obtain⟨M,C⟩:∃l,(ofE ⟨x,y,a,b,d⟩).1.ws=l:=⟨_,rfl⟩;obtain⟨I,A⟩:∃L,(ofSt ⟨p,q,r,s,l,h⟩).1.ws=L:=⟨_,rfl⟩;obtain⟨t,J⟩:∃e,(ofE ⟨x,y,a,b,d⟩).2=e:=⟨_,rfl⟩;obtain⟨B,D⟩:∃e,(ofSt ⟨p,q,r,s,l,h⟩).2=e:=⟨_,rfl⟩;have U:M.length=7:=by rw[<-C];rfl
 have X:I.length=7:=by rw[<-A];rfl
 have T:Hid (∀w,zR 159 #[elC x y a b d] w (.tuple #[.agg (blk M),t])):=of_v _ _ _ _ _ _ _ C J;have P:Hid (∀w,zR 357 #[stC p q r s l h] w (.tuple #[.agg (blk I),B])):=DC _ _ _ _ _ _ _ _ A D;obtain⟨⟨O,G,K,F,N⟩,f,H⟩:∃o f,cutE ⟨x,y,a,b,d⟩ ⟨p,q,r,s,l,h⟩ k=(o,f):=⟨_,_,rfl⟩
 have R:Hid (∀w,zR 160 #[.agg (blk M),.agg (blk I),k,.int .i64 (max t B)] w (.tuple #[elC O G K F N,f])):=by
  intro w;have:=ug (ofE ⟨x,y,a,b,d⟩).1 (ofSt ⟨p,q,r,s,l,h⟩).1 ((el _).sml (by decide) (by decide)) ((mo _).sml (by decide) (by decide)) k (max t B) (uK _ _ k) w;have e:bU (ofE ⟨x,y,a,b,d⟩).1 (ofSt ⟨p,q,r,s,l,h⟩).1 k (max t B)=(⟨O,G,K,F,N⟩,f):=by rw[<-J,<-D];exact H
  rw[e] at this;rw[<-C,<-A];exact this
 have S:=Lh H;clear H C A J D;go_enter func354,ntmps354;go_wp2_with fail;refine(T.out _).mono ?_;rintro e Q ⟨rfl,m⟩;have n:=m.size;(try simp at n);have v:=bq3 m (w.heap.size);go_wp2_with fail;refine(P.out _).mono ?_;rintro e W ⟨rfl,c⟩;have g:=c.size;(try simp at g);have z:=bq3 c (w.heap.size);have E:=bq c (Q.heap.size);go_wp2_with fail;refine(R.out _).mono ?_;rintro e V ⟨rfl,i⟩;have j:=i.size;(try simp at j);have u:=bq3 i (w.heap.size);go_wp2_with fail;exact rT 5 #[.int .i64 O,.int .i64 G,.int .i64 K,.int .i64 F,.int .i64 N] (.int .i64 f) ⟨by rw[S.out],ad⟩
theorem FM(x y a b d p q r s l h k j e g c i f:Int)(m:cutE ⟨x,y,a,b,d⟩ ⟨p,q,r,s,l,h⟩ k=(⟨j,e,g,c,i⟩,f))(w:World):zR 354 #[elC x y a b d,stC p q r s l h,k] w (.tuple #[elC j e g c i,f]):=by
 have:=FO x y a b d p q r s l h k w;rw[m] at this;exact this
theorem kV(e:El)(h:e.may=true):ofE e=(ofEl e,0):=by unfold ofE;rw [if_pos h]
theorem Ky(s:St)(h:s.may=true):ofSt s=(iZ s,0):=by unfold ofSt;rw [if_pos h]
theorem vY(e f:El)(k:Int)(a:e.may=true)(d:f.may=true)(c:0<=k)(b:k<=34):fuseE e f k=ellI (mixI (ofEl e) (ofEl f) k):=by
 unfold fuseE bU;rw[kV e a,kV f d];show(if max (0:Int) 0=0 then (if (mixQ (ofEl e) (ofEl f) k).2=0 then _ else _) else _)=_;have:mixQ (ofEl e) (ofEl f) k=(mixI (ofEl e) (ofEl f) k,0):=by unfold mixQ;rw[if_pos ⟨c,b⟩]
 rw[this];rfl
theorem Qj(e:El)(s:St)(k:Int)(a:e.may=true)(d:s.may=true)(c:0<=k)(b:k<=34):cutE e s k=ellI (mixI (ofEl e) (iZ s) k):=by
 unfold cutE bU;rw[kV e a,Ky s d];show(if max (0:Int) 0=0 then (if (mixQ (ofEl e) (iZ s) k).2=0 then _ else _) else _)=_;have:mixQ (ofEl e) (iZ s) k=(mixI (ofEl e) (iZ s) k,0):=by unfold mixQ;rw[if_pos ⟨c,b⟩]
 rw[this];rfl
theorem DU(e:El)(p q:Int):(ofEl e).hom p q 1=form e.d (-e.b) e.a (p-e.x) (q-e.y):=by
 rw[mG,Int.mul_one,Int.mul_one]
theorem uq(e:El)(p q:Int)(h:e.has p q=true):(ofEl e).hom p q 1<=(ofEl e).N:=by
 have c:=((El.has_iff e p q).1 h).2.2;unfold gj at c;have f:=((ga _ _ _).1 c).2.2;rw[DU];show _<=e.a*e.d-e.b*e.b;have g:form e.d (-e.b) e.a (p-e.x) (q-e.y)=(e.a*e.d-e.b*e.b)-((e.a-(p-e.x)*(p-e.x))*(e.d-(q-e.y)*(q-e.y))-(e.b-(p-e.x)*(q-e.y))*(e.b-(p-e.x)*(q-e.y))):=by unfold form;grind
 omega
theorem sG(i j:Iq)(k p q:Int)(c:0<=k)(l:k<=34)(f:0<i.N)(d:0<j.N)(a:i.hom p q 1<=i.N)(b:j.hom p q 1<=j.N):(mixI i j k).hom p q 1<=(mixI i j k).N:=by
 rw[uo];show _<=34*(i.N*j.N);have g:=Int.mul_le_mul_of_nonneg_left a (Int.mul_nonneg c (show 0<=j.N by omega));have h:=Int.mul_le_mul_of_nonneg_left b (Int.mul_nonneg (show 0<=34-k by omega) (show 0<=i.N by omega));have e:34*(i.N*j.N)=k*j.N*i.N+(34-k)*i.N*j.N:=by grind
 omega
theorem mK(e f:El)(k p q:Int)(g:0<=k)(d:k<=34)(i:e.has p q=true)(j:f.has p q=true){o:El}{er:Int}(h:fuseE e f k=(o,er)):er≠3/\(er=0->o.has p q=true):=by
 have b:=(El.has_iff _ _ _).1 i;have c:=(El.has_iff _ _ _).1 j;rw[vY e f k b.1 c.1 g d] at h;have a:=vX e f k;have:(mixQ (ofE e).1 (ofE f).1 k).1=mixI (ofEl e) (ofEl f) k:=by rw[kV e b.1,kV f c.1];unfold mixQ;rw[if_pos ⟨g,d⟩]
 rw[this] at a;exact tu _ a p q b.2.1 (sG _ _ k p q g d (mv e b.1).2.2.2 (mv f c.1).2.2.2 (uq e p q i) (uq f p q j)) h
theorem Tz(s:St)(p q:Int)(l:Int)(a:s.hx*(p-s.ox)+s.hy*(q-s.oy)=l):(iZ s).hom p q 1=(2*l-(s.lo+s.hi))*(2*l-(s.lo+s.hi)):=by
 rw[KS];unfold St.m;have:2*s.hx*p+2*s.hy*q-(s.lo+s.hi+2*s.hx*s.ox+2*s.hy*s.oy)*1=2*l-(s.lo+s.hi):=by rw[<-a];grind
 rw[this]
theorem Q7(s:St)(b:s.may=true)(p q:Int)(l:Int)(a:s.hx*(p-s.ox)+s.hy*(q-s.oy)=l):(iZ s).hom p q 1<=(iZ s).N↔s.lo<=l/\l<=s.hi:=by
 obtain⟨-,-,-,f,c,d⟩:=(St.aQ s).1 b;rw[Tz s p q l a];show _<=(s.hi-s.lo)*(s.hi-s.lo)↔_;constructor
 ·intro h;have:=qg (show 0<=s.hi-s.lo by omega) h;omega
 ·rintro⟨h1,h2⟩;have g:=Int.mul_nonneg (show 0<=(s.hi-s.lo)-(2*l-(s.lo+s.hi)) by omega) (show 0<=(s.hi-s.lo)+(2*l-(s.lo+s.hi)) by omega);have e:((s.hi-s.lo)-(2*l-(s.lo+s.hi)))*((s.hi-s.lo)+(2*l-(s.lo+s.hi)))=(s.hi-s.lo)*(s.hi-s.lo)-(2*l-(s.lo+s.hi))*(2*l-(s.lo+s.hi)):=by grind
  omega
theorem Jy(e:El)(s:St)(k p q l:Int)(f:0<=k)(d:k<=34)(h:e.has p q=true)(c:s.may=true)(m:s.hx*(p-s.ox)+s.hy*(q-s.oy)=l)(i:s.lo<=l)(j:l<=s.hi){o:El}{er:Int}(g:cutE e s k=(o,er)):er≠3/\(er=0->o.has p q=true):=by
 have b:=(El.has_iff _ _ _).1 h;rw[Qj e s k b.1 c f d] at g;have a:=Qi e s k;have:(mixQ (ofE e).1 (ofSt s).1 k).1=mixI (ofEl e) (iZ s) k:=by rw[kV e b.1,Ky s c];unfold mixQ;rw[if_pos ⟨f,d⟩]
 rw[this] at a;exact tu _ a p q b.2.1 (sG _ _ k p q f d (mv e b.1).2.2.2 (UJ s c) (uq e p q h) ((Q7 s c p q l m).2 ⟨i,j⟩)) g
end Go.Proofs.YtechbdnhalmobaaGreatDoor
