/- Walks. -/
import Derived.Test.YtechbdnhalmobaaGreatDoorBM
import Derived.Deep.RegionWith
import Derived.Deep.Cut
import Derived.StillTail
import Derived.Deep.Quiet
import Derived.Below
import Derived.Tactics
import Derived.BigQuiet
import Derived.Lib.Hide
open Go.Proofs.Tryz
set_option maxRecDepth 100000
set_option maxHeartbeats 16000000
namespace Go.Proofs.YtechbdnhalmobaaGreatDoor
set_option linter.unusedSimpArgs false
set_option linter.unusedVariables false
open Go.RowKit
abbrev elC(x y a b d:Int):Value:=.agg #[x,y,a,b,d]
abbrev stC(a b c d e f:Int):Value:=.agg #[a,b,c,d,e,f]
abbrev elV(e:El):Value:=elC e.x e.y e.a e.b e.d
def withinB(x y m:Int):Bool:=decide (-m<=x/\x<=m/\-m<=y/\y<=m)
theorem iN(x y m:Int)(e:0<=m/\m<=9223372036854775807)(w:World):zR 37 #[ptV x y,m] w (.bool (withinB x y m)):=by
 have f:IntKind.i64.wrap (-m)=-m:=by rw[IntKind.wrap_i64];omega
 have E:withinB x y m=(decide (-m<=x)&&(decide (x<=m)&&(decide (-m<=y)&&decide (y<=m)))):=by unfold withinB;simp
 by_cases b : -m<=x
 ·by_cases c:x<=m
  ·by_cases d : -m<=y
   ·have a:Hid (withinB x y m=decide (y<=m)):=by show _=_;rw[E];simp[b,c,d]
    clear E;go_enter func37,ntmps37;go_wp2
    go_ret;exact⟨by rw[a.out];rfl,ae⟩
   ·have a:Hid (withinB x y m=false):=by show _=_;rw[E];simp[b,c,d]
    clear E;go_enter func37,ntmps37;go_wp2
    go_ret;exact⟨by rw[a.out];rfl,ae⟩
  ·have a:Hid (withinB x y m=false):=by show _=_;rw[E];simp[b,c]
   clear E;go_enter func37,ntmps37;go_wp2
   go_ret;exact⟨by rw[a.out];rfl,ae⟩
 ·have a:Hid (withinB x y m=false):=by show _=_;rw[E];simp[b]
  clear E;go_enter func37,ntmps37;go_wp2
  go_ret;exact⟨by rw[a.out];rfl,ae⟩
theorem cQ(x y:Int)(w:World):zR 62 #[ptV x y] w (.bool (mayPt x y)):=by
 go_enter func62,ntmps62;go_wp2_with fail;refine(iN x y 4194304 (by decide) _).mono ?_;rintro e b ⟨rfl,a⟩;have c:=a.size;go_wp2_with fail;go_ret;exact⟨rfl,ae⟩
theorem El.uk(e:El)(h:e.may=true):kO e.a e.b e.d=true:=by
 have:=(El.aQ e).1 h;rw[mx];omega
theorem may_cases(m:Bool)(a b d:Int):(m=false)∨(m=true/\¬1<=a)∨(m=true/\1<=a/\¬a<=70368744177664)∨(m=true/\1<=a/\a<=70368744177664/\¬1<=d)∨(m=true/\1<=a/\a<=70368744177664/\1<=d/\¬d<=70368744177664)∨
  (m=true/\1<=a/\a<=70368744177664/\1<=d/\d<=70368744177664/\¬-70368744177664<=b)∨(m=true/\1<=a/\a<=70368744177664/\1<=d/\d<=70368744177664/\-70368744177664<=b/\¬b<=70368744177664)∨
  (m=true/\1<=a/\a<=70368744177664/\1<=d/\d<=70368744177664/\-70368744177664<=b/\b<=70368744177664):=by
 cases m<;>simp<;>omega
theorem bD(x y a b d:Int)(w:World):zR 34 #[elC x y a b d] w (.bool (El.may ⟨x,y,a,b,d⟩)):=by
 obtain⟨m,B⟩:∃m,m=mayPt x y:=⟨_,rfl⟩
 have E:Hid (El.may ⟨x,y,a,b,d⟩=(m&&(decide (1<=a)&&(decide (a<=70368744177664)&&(decide (1<=d)&&(decide (d<=70368744177664)&&(decide (-70368744177664<=b)&&(decide (b<=70368744177664)&&decide (0<a*d-b*b))))))))):=by
  show _=_;rw[B];unfold El.may;simp[Bool.and_assoc]
 have I:=Lh B.symm;clear B;rcases may_cases m a b d with h|⟨h,l⟩|⟨h,l,p⟩|⟨h,l,p,q⟩|⟨h,l,p,q,u⟩|⟨h,l,p,q,u,v⟩|⟨h,l,p,q,u,v,J⟩|⟨h,l,p,q,u,v,J⟩
 case inr.inr.inr.inr.inr.inr.inr=>
  subst h;have i:Hid (I64 a/\I64 b/\I64 d):=by unfold Hid I64;omega
  obtain⟨s,C⟩:∃s,s=a*d-b*b:=⟨_,rfl⟩;have S:Hid (Sm 260 s):=by show Sm 260 s;rw[C];exact(i.out.1.sm.mul i.out.2.2.sm |>.sub (i.out.2.1.sm.mul i.out.2.1.sm)).mono (by decide)
  have H:=Lh C;clear C;rw[<-H.out] at E;have D:Hid (El.may ⟨x,y,a,b,d⟩=decide (0<s)):=by show _=_;rw[E.out];simp[l,p,q,u,v,J]
  have K:=Lh (WI.di (S.out.lim (by decide)));go_enter func34,ntmps34;go_wp2_with fail;refine(cQ _ _ _).mono ?_;rintro e L ⟨rfl,c⟩;rw[I.out];have f:=c.size;(try simp at f);have k:=bq c (w.heap.size);have o:=bq c (w.heap.size+1);go_wp2_with fail;refine(qR _ _ _ i.out.1 i.out.2.1 i.out.2.2 _).mono ?_;rintro e N ⟨rfl,n⟩;have r:=n.size;(try simp at r);have z:=bq n (w.heap.size);have A:=bq n (w.heap.size+1);rw[<-H.out];go_wp2_with fail;refine(dX _ _).mono ?_;rintro e M ⟨rfl,j⟩;rw[K.out];have t:=j.size;(try simp at t);have F:=bq j (w.heap.size);have G:=bq j (w.heap.size+1);go_wp2
  go_ret;exact⟨by rw[D.out];simp,ae⟩
 all_goals subst h
 all_goals have D:Hid (El.may ⟨x,y,a,b,d⟩=false):=by show _=_;rw[E.out];simp[*]
 all_goals clear E
 all_goals go_enter func34,ntmps34
 all_goals go_wp2_with fail
 all_goals (refine(cQ _ _ _).mono ?_;rintro e L ⟨rfl,c⟩;rw[I.out];have f:=c.size;(try simp at f);have k:=bq c (w.heap.size);have o:=bq c (w.heap.size+1))
 all_goals go_wp2_with fail
 all_goals go_ret
 all_goals exact⟨by rw[D.out];rfl,ae⟩
theorem I3(e:El)(m:Bool)(h:e.may=m)(w:World):zR 34 #[elV e] w (.bool m):=by
 subst h;exact bD e.x e.y e.a e.b e.d w
theorem BJ(x y a b d p q:Int)(w:World):zR 15 #[elC x y a b d,ptV p q] w (.bool (El.has ⟨x,y,a,b,d⟩ p q)):=by
 obtain⟨m,t⟩:∃m,m=El.may ⟨x,y,a,b,d⟩:=⟨_,rfl⟩;obtain⟨n,s⟩:∃n,n=withinB p q 1073741824:=⟨_,rfl⟩
 have E:Hid (El.has ⟨x,y,a,b,d⟩ p q=(m&&n&&gj a b d (p-x) (q-y))):=by
  show _=_;rw[t,s];rfl
 have z:=Lh t.symm;have I:=Lh s.symm;cases m with
 | false=>
  clear t s;go_enter func15,ntmps15;go_wp2_with fail;refine(bD _ _ _ _ _ _).mono ?_;rintro e F ⟨rfl,c⟩;rw[z.out];have f:=c.size;(try simp at f);have j:=bq c (w.heap.size);have k:=bq c (w.heap.size+1);go_wp2
  go_ret;exact⟨by rw[E.out];rfl,ad⟩
 | true=>
  cases n with
  | false=>
   clear t s;go_enter func15,ntmps15;go_wp2_with fail;refine(bD _ _ _ _ _ _).mono ?_;rintro e F ⟨rfl,c⟩;rw[z.out];have f:=c.size;(try simp at f);have j:=bq c (w.heap.size);have k:=bq c (w.heap.size+1);go_wp2_with fail;refine(iN _ _ _ (by decide) _).mono ?_;rintro e N ⟨rfl,h⟩;rw[I.out];have i:=h.size;(try simp at i);have l:=bq h (w.heap.size);have o:=bq h (w.heap.size+1);go_wp2
   go_ret;exact⟨by rw[E.out];rfl,ad⟩
  | true=>
   have B:=(El.aQ _).1 t.symm;have C : -1073741824<=p/\p<=1073741824/\-1073741824<=q/\q<=1073741824:=by simpa [withinB] using s.symm
   obtain⟨⟨O,R,T,S⟩,⟨J,L,H,M,G,v⟩,-⟩:=B;obtain⟨U,V,W,Y⟩:=C;simp only at O R T S J L H M G v;have K:Hid (I64 a/\I64 b/\I64 d/\I64 (p-x)/\I64 (q-y)):=by unfold Hid I64;omega
   clear t s J L H M G v;go_enter func15,ntmps15;go_wp2_with fail;refine(bD _ _ _ _ _ _).mono ?_;rintro e F ⟨rfl,c⟩;rw[z.out];have f:=c.size;(try simp at f);have j:=bq c (w.heap.size);have k:=bq c (w.heap.size+1);go_wp2_with fail;refine(iN _ _ _ (by decide) _).mono ?_;rintro e N ⟨rfl,h⟩;rw[I.out];have i:=h.size;(try simp at i);have l:=bq h (w.heap.size);have o:=bq h (w.heap.size+1);go_wp2_with fail;refine(Bu _ _ _ _ _ K.out.1 K.out.2.1 K.out.2.2.1 K.out.2.2.2.1 K.out.2.2.2.2 _).mono ?_;rintro e X ⟨rfl,r⟩;have u:=r.size;(try simp at u);have A:=bq r (w.heap.size);have D:=bq r (w.heap.size+1);go_wp2
   go_ret;exact⟨by rw[E.out];rfl,ad⟩
def radB(r:Int):Bool:=decide (1<=r)&&decide (r<=4194304)
theorem qs(r:Int)(w:World):zR 79 #[r] w (.bool (radB r)):=by
 have E:radB r=(decide (1<=r)&&decide (r<=4194304)):=rfl;by_cases b:1<=r
 ·have a:Hid (radB r=decide (r<=4194304)):=by show _=_;rw[E];simp[b]
  clear E;go_enter func79,ntmps79;go_wp2
  go_ret;exact⟨by rw[a.out];rfl,ad⟩
 ·have a:Hid (radB r=false):=by show _=_;rw[E];simp[b]
  clear E;go_enter func79,ntmps79;go_wp2
  go_ret;exact⟨by rw[a.out];rfl,ad⟩
theorem wv(x y r:Int)(w:World):zR 35 #[ptV x y,r] w (.tuple #[elV (ballE x y r).1,.int .i64 (ballE x y r).2]):=by
 have E:Hid (ballE x y r=if mayPt x y=true/\1<=r/\r<=4194304 then (⟨x,y,r*r,0,r*r⟩,0) else (El.zero,1)):=rfl;obtain⟨m,v⟩:∃m,m=mayPt x y:=⟨_,rfl⟩;have p:=Lh v.symm;clear v;rw[p.out] at E;cases m with
 | false=>
  go_enter func35,ntmps35;go_wp2_with fail;refine(cQ _ _ _).mono ?_;rintro e u ⟨rfl,a⟩;rw[p.out];have b:=a.size;(try simp at b);have f:=bq a (w.heap.size);have i:=bq a (w.heap.size+1);go_wp2
  exact rT 5 z5 (.int .i64 1) ⟨by rw[E.out];rfl,ad⟩
 | true=>
  obtain⟨n,l⟩:∃n,n=radB r:=⟨_,rfl⟩;have z:=Lh l.symm;cases n with
  | false=>
   have o:Hid (ballE x y r=(El.zero,1)):=by
    have h:=l.symm;show _=_;rw[E.out,if_neg];rintro⟨-,h1,h2⟩;simp[radB,h1,h2] at h
   clear l;go_enter func35,ntmps35;go_wp2_with fail;refine(cQ _ _ _).mono ?_;rintro e u ⟨rfl,a⟩;rw[p.out];have b:=a.size;(try simp at b);have f:=bq a (w.heap.size);have i:=bq a (w.heap.size+1);go_wp2_with fail;refine(qs _ _).mono ?_;rintro e B ⟨rfl,c⟩;rw[z.out];have d:=c.size;(try simp at d);have j:=bq c (w.heap.size);have k:=bq c (w.heap.size+1);go_wp2
   exact rT 5 z5 (.int .i64 1) ⟨by rw[o.out];rfl,ad⟩
  | true=>
   have t:1<=r/\r<=4194304:=by simpa [radB] using l.symm
   have o:Hid (ballE x y r=(⟨x,y,r*r,0,r*r⟩,0)):=by
    show _=_;rw[E.out,if_pos ⟨rfl,t⟩]
   obtain⟨s,q⟩:∃s,s=r*r:=⟨_,rfl⟩;have C:r*r<=4194304*4194304:=Int.mul_le_mul t.2 t.2 (by omega) (by decide);have A:=ax r;rw[<-q] at o C A;have D:r*r=s:=q.symm;clear l q;go_enter func35,ntmps35;go_wp2_with fail;refine(cQ _ _ _).mono ?_;rintro e u ⟨rfl,a⟩;rw[p.out];have b:=a.size;(try simp at b);have f:=bq a (w.heap.size);have i:=bq a (w.heap.size+1);go_wp2_with fail;refine(qs _ _).mono ?_;rintro e B ⟨rfl,c⟩;rw[z.out];have d:=c.size;(try simp at d);have j:=bq c (w.heap.size);have k:=bq c (w.heap.size+1);go_wp2
   exact rT 5 #[.int .i64 x,.int .i64 y,.int .i64 s,.int .i64 0,.int .i64 s] (.int .i64 0) ⟨by rw[o.out],ad⟩
theorem tO(x y a b d:Int)(w:World):zR 13 #[elC x y a b d] w (.int .i64 (El.tr ⟨x,y,a,b,d⟩)):=by
 have E:Hid (El.tr ⟨x,y,a,b,d⟩=if El.may ⟨x,y,a,b,d⟩=true then a+d else 0):=rfl;obtain⟨m,i⟩:∃m,m=El.may ⟨x,y,a,b,d⟩:=⟨_,rfl⟩;have j:=Lh i.symm;rw[j.out] at E;cases m with
 | false=>
  clear i;go_enter func13,ntmps13;go_wp2_with fail;refine(bD _ _ _ _ _ _).mono ?_;rintro e k ⟨rfl,c⟩;rw[j.out];have f:=c.size;(try simp at f);have h:=bq c (w.heap.size);go_wp2
  go_ret;exact⟨by rw[E.out];rfl,ad⟩
 | true=>
  obtain⟨-,⟨n,o,l,p,-,-⟩,-⟩:=(El.aQ _).1 i.symm;simp only at n o l p;clear i;go_enter func13,ntmps13;go_wp2_with fail;refine(bD _ _ _ _ _ _).mono ?_;rintro e k ⟨rfl,c⟩;rw[j.out];have f:=c.size;(try simp at f);have h:=bq c (w.heap.size);go_wp2
  go_ret;exact⟨by rw[E.out];rfl,ad⟩
theorem El.wY(e:El):0<=e.tr/\e.tr<=140737488355328:=by
 unfold El.tr;split
 ·rename_i h;have:=(El.aQ e).1 h;omega
 ·decide
theorem mO(x y a b d:Int)(w:World):zR 80 #[elC x y a b d] w (.int .i64 (El.rad ⟨x,y,a,b,d⟩)):=by
 obtain⟨m,o⟩:∃m,m=El.tr ⟨x,y,a,b,d⟩:=⟨_,rfl⟩;have h:=El.wY ⟨x,y,a,b,d⟩;rw[<-o] at h;obtain⟨n,q⟩:∃n:Nat,m=n:=⟨m.toNat,by omega⟩;subst q;have p:=Lh o.symm;have s:Hid (El.rad ⟨x,y,a,b,d⟩=(up n:Nat)):=by show _=_;unfold El.rad;rw[p.out];rfl
 have r:Hid (n<=9223372036854775807):=by show n<=_;omega
 clear o h;go_enter func80,ntmps80;go_wp2_with fail;refine(tO _ _ _ _ _ _).mono ?_;rintro e t ⟨rfl,f⟩;rw[p.out];have j:=f.size;(try simp at j);have l:=bq f (w.heap.size);go_wp2_with fail;refine(Fq n _ r.out rfl _).mono ?_;rintro e u ⟨rfl,i⟩;have c:=i.size;(try simp at c);have k:=bq i (w.heap.size);go_wp2
 go_ret;exact⟨by rw[s.out];rfl,ad⟩
theorem setCell_self{w:World}{b:Nat}{v:Value}{t:TypeId}{fr:Nat×Nat}(h:w.heap[b]?=some (.cells #[v] t fr)):w.setCell ⟨b,0,none⟩ v=w:=by
 have a:(w.setCell ⟨b,0,none⟩ v).heap=w.heap:=by
  apply Array.ext_getElem?;intro k;by_cases c:k=b
  ·subst c;simp[World.setCell,Array.getElem?_modify,h]
  ·exact heap_setCell_other _ _ _ _ c
 cases w;simp only[World.setCell] at a ⊢;rw[a]
theorem eG(r a s:Int)(c:0<s)(b:0<=r)(e:0<=a)(d:a<=s*s):0<=cdiv (r*a) s/\cdiv (r*a) s<=r*s:=by
 have h:=dH (r*a) s c;have k:=Int.mul_nonneg b e;have j:=Int.mul_le_mul_of_nonneg_left d b;have i:r*(s*s)=s*(r*s):=by grind
 constructor
 ·exact Int.le_of_mul_le_mul_left (a:=s) (by omega) c
 · have f : s * (cdiv (r * a) s) < s * (r * s + 1) := by
     have:s*(r*s+1)=s*(r*s)+s:=by grind
     omega
   have:=Int.lt_of_mul_lt_mul_left f (by omega);omega
theorem tn(r b s:Int)(d:0<s)(c:0<=r)(i : -(s*s)<=b)(e:b<=s*s):-(r*s)<=(r*b).fdiv s/\(r*b).fdiv s<=r*s:=by
 have h:=cI (r*b) s d;have m:=Int.mul_le_mul_of_nonneg_left i c;have l:=Int.mul_le_mul_of_nonneg_left e c;have k:r*(s*s)=s*(r*s):=by grind
 have f:r*(-(s*s))=s*(-(r*s)):=by grind
 constructor
 · have j : s * (-(r * s)) < s * ((r * b).fdiv s + 1) := by
     have:s*((r*b).fdiv s+1)=s*(r*b).fdiv s+s:=by grind
     omega
   have:=Int.lt_of_mul_lt_mul_left j (by omega);omega
 ·exact Int.le_of_mul_le_mul_left (a:=s) (by omega) d
theorem El.b_sq(e:El)(h:e.may=true):-(e.rad*e.rad)<=e.b/\e.b<=e.rad*e.rad:=by
 have i:=(El.aQ e).1 h;have c:=e.ml h;have f:e.a*e.d<=(e.rad*e.rad)*(e.rad*e.rad):=Int.mul_le_mul (by omega) (by omega) (by omega) (by have:=ax e.rad;omega);exact qg (by have:=ax e.rad;omega) (by omega)
theorem CI{s t:Int}(d:0<s)(a:s<=11863284)(c:0<t)(b:t<=11863284):(s+t)*s<=300000000000000:=by
 have:=Int.mul_le_mul (show s+t<=23726568 by omega) a (by omega) (by decide);omega
theorem eX(s t a:Int)(b:0<s)(c:s<=11863284)(e:0<t)(d:t<=11863284)(h:0<=a)(f:a<=s*s)(j:a<=70368744177664):cn (s+t) a s=(cdiv ((s+t)*a) s,0)/\-300000000000000<=cdiv ((s+t)*a) s/\cdiv ((s+t)*a) s<=300000000000000:=by
 have k:=eG (s+t) a s b (by omega) h f;have i:=CI b c e d;refine⟨?_,by omega,by omega⟩;rw[kz _ _ _ (Sm.of64 (by omega) (by omega)) (Sm.of64 (by omega) (by omega)) (Sm.of64 (by omega) (by omega)),if_neg (by omega)];show dS (cdiv ((s+t)*a) s)=_;unfold dS;rw[if_pos (by omega)]
theorem jh(s t a:Int)(b:0<s)(c:s<=11863284)(e:0<t)(d:t<=11863284)(h : -(s*s)<=a)(f:a<=s*s)(j : -70368744177664<=a)(l:a<=70368744177664):du (s+t) a s=(((s+t)*a).fdiv s,0)/\-300000000000000<=((s+t)*a).fdiv s/\((s+t)*a).fdiv s<=300000000000000:=by
 have k:=tn (s+t) a s b (by omega) h f;have i:=CI b c e d;refine⟨?_,by omega,by omega⟩;rw[nX _ _ _ (Sm.of64 (by omega) (by omega)) (Sm.of64 (by omega) (by omega)) (Sm.of64 (by omega) (by omega)),if_neg (by omega)];unfold dS;rw[if_pos (by omega)]
theorem xP(f:FuncId)(s t x y q p:Int)(k h d:Nat)(w:World)(K:∀c w,Sem.run prog (callFunc f c) w=.ok (.enter f c) w)(J:0<s/\s<=11863284/\0<t/\t<=11863284)(R : -300000000000000<=q/\q<=300000000000000)(O : -300000000000000<=p/\p<=300000000000000)(F:∀w,zR f #[.int .i64 (s+t),.int .i64 x,.int .i64 s] w (.tuple #[q,.int .i64 0]))(B:∀w,zR f #[.int .i64 (s+t),.int .i64 y,.int .i64 t] w (.tuple #[p,.int .i64 0]))(I:w.cell? ⟨k,0,none⟩=some (.int .i64 s))(S:w.cell? ⟨h,0,none⟩=some (.int .i64 t))(E:w.heap[d]?=some (.cells #[.int .i64 0] 46 (0,0))):Calls prog 81 (#[.func (.func f) #[] #[],.int .i64 x,.int .i64 y]++#[.pointer (some ⟨k,0,none⟩),.pointer (some ⟨h,0,none⟩),.pointer (some ⟨d,0,none⟩)]) w
   fun e N=>e=.returned (.int .i64 (q+p))/\zB w N:=by
 have z:=Lh F;have A:=Lh B;have v:Hid (Blk w d #[.int .i64 0] 46):=E;have G:=block_lt_of_cell I;have H:=block_lt_of_cell S;have U:=v.out.lt;have V:=v.out.at 0;have W:=v.out.frozen 0;simp only at G H;have C:wrap64 (s+t)=s+t:=by unfold wrap64;omega
 have M:wrap64 (q+p)=q+p:=by unfold wrap64;omega
 clear F B E J R O;show Calls prog 81 #[.func (.func f) #[] #[],x,y,.pointer (some ⟨k,0,none⟩),.pointer (some ⟨h,0,none⟩),.pointer (some ⟨d,0,none⟩)] w _;go_enter func81,ntmps81;go_wp2_with fail;simp only[C];refine(z.out _).mono ?_;rintro e T ⟨rfl,a⟩;have o:=a.size;(try simp at o);have r:=bq a (k);have l:=bq a (h);have i:=bq a (d);go_wp2_with fail;simp only[C];refine(A.out _).mono ?_;rintro e D ⟨rfl,b⟩;have j:=b.size;(try simp at j);have n:=bq b (k);have m:=bq b (h);have u:=bq b (d);go_wp2
 simp only[M];go_ret;have L:D.setCell ⟨d,0,none⟩ (.int .i64 0)=D:=setCell_self (t:=46) (fr:=(0,0)) (((v.out.keep a).keep b));exact⟨rfl,by rw[L];exact ad⟩
structure Gf (e f:El) (s t:Int):Prop where
 s1:e.rad=s
 t1:f.rad=t
 hs:0<s/\s<=11863284/\0<t/\t<=11863284
 he:e.may=true
 hf:f.may=true
theorem CF(e f:El)(a:e.may=true)(b:f.may=true):Gf e f e.rad f.rad:=
 ⟨rfl,rfl,⟨e.eQ a,e.fg,f.eQ b,f.fg⟩,a,b⟩
theorem mdu(a b c:Int)(V:Int×Int)(h:cn a b c=V)(f : -9223372036854775808<=a/\a<=9223372036854775807)(e : -9223372036854775808<=b/\b<=9223372036854775807)(d : -9223372036854775808<=c/\c<=9223372036854775807)(w:World):zR 82 #[a,b,c] w (.tuple #[.int .i64 V.1,.int .i64 V.2]):=by
 subst h;exact sE a b c f e d w
theorem mdd(a b c:Int)(V:Int×Int)(h:du a b c=V)(f : -9223372036854775808<=a/\a<=9223372036854775807)(e : -9223372036854775808<=b/\b<=9223372036854775807)(d : -9223372036854775808<=c/\c<=9223372036854775807)(w:World):zR 83 #[a,b,c] w (.tuple #[.int .i64 V.1,.int .i64 V.2]):=by
 subst h;exact yd a b c f e d w
theorem tZ(s t x y:Int)(e f h:Nat)(w:World)(a:0<s/\s<=11863284/\0<t/\t<=11863284)(c:0<=x/\x<=s*s/\x<=70368744177664)(d:0<=y/\y<=t*t/\y<=70368744177664)(l:w.cell? ⟨e,0,none⟩=some (.int .i64 s))(k:w.cell? ⟨f,0,none⟩=some (.int .i64 t))(m:w.heap[h]?=some (.cells #[.int .i64 0] 46 (0,0))):zR 81 #[.func (.func 82) #[] #[],x,y,.pointer (some ⟨e,0,none⟩),.pointer (some ⟨f,0,none⟩),.pointer (some ⟨h,0,none⟩)] w (.int .i64 (cdiv ((s+t)*x) s+cdiv ((s+t)*y) t)):=by
 have j:=eX s t x a.1 a.2.1 a.2.2.1 a.2.2.2 c.1 c.2.1 c.2.2;have b:=eX t s y a.2.2.1 a.2.2.2 a.1 a.2.1 d.1 d.2.1 d.2.2;rw[Int.add_comm t s] at b
 exact xP 82 s t x y _ _ e f h w (by intro i w;rfl) a j.2 b.2
  (fun w=>mdu _ _ _ (cdiv ((s+t)*x) s,0) j.1 (by omega) (by omega) (by omega) w) (fun w=>mdu _ _ _ (cdiv ((s+t)*y) t,0) b.1 (by omega) (by omega) (by omega) w) l k m
theorem vC(s t x y:Int)(e f h:Nat)(w:World)(a:0<s/\s<=11863284/\0<t/\t<=11863284)(b : -(s*s)<=x/\x<=s*s/\-70368744177664<=x/\x<=70368744177664)(c : -(t*t)<=y/\y<=t*t/\-70368744177664<=y/\y<=70368744177664)(l:w.cell? ⟨e,0,none⟩=some (.int .i64 s))(k:w.cell? ⟨f,0,none⟩=some (.int .i64 t))(m:w.heap[h]?=some (.cells #[.int .i64 0] 46 (0,0))):zR 81 #[.func (.func 83) #[] #[],x,y,.pointer (some ⟨e,0,none⟩),.pointer (some ⟨f,0,none⟩),.pointer (some ⟨h,0,none⟩)] w (.int .i64 (((s+t)*x).fdiv s+((s+t)*y).fdiv t)):=by
 have j:=jh s t x a.1 a.2.1 a.2.2.1 a.2.2.2 b.1 b.2.1 b.2.2.1 b.2.2.2;have d:=jh t s y a.2.2.1 a.2.2.2 a.1 a.2.1 c.1 c.2.1 c.2.2.1 c.2.2.2;rw[Int.add_comm t s] at d
 exact xP 83 s t x y _ _ e f h w (by intro i w;rfl) a j.2 d.2
  (fun w=>mdd _ _ _ (((s+t)*x).fdiv s,0) j.1 (by omega) (by omega) (by omega) w) (fun w=>mdd _ _ _ (((s+t)*y).fdiv t,0) d.1 (by omega) (by omega) (by omega) w) l k m
theorem xd(x y a b d j k o F q:Int)(K:El.may ⟨x,y,a,b,d⟩=true)(H:El.may ⟨j,k,o,F,q⟩=true)(w:World):Calls prog 36 #[elC x y a b d,elC j k o F q] w fun r z=>
   r=.returned (.tuple #[elV (sumE ⟨x,y,a,b,d⟩ ⟨j,k,o,F,q⟩).1,.int .i64 (sumE ⟨x,y,a,b,d⟩ ⟨j,k,o,F,q⟩).2])/\zB w z:=by
 have HE:=Lh K;have HF:=Lh H;obtain⟨s,hs⟩:∃s,s=El.rad ⟨x,y,a,b,d⟩:=⟨_,rfl⟩;obtain⟨t,ht⟩:∃t,t=El.rad ⟨j,k,o,F,q⟩:=⟨_,rfl⟩;have HS:=Lh hs.symm;have HT:=Lh ht.symm;have me:=(El.aQ _).1 K;have mf:=(El.aQ _).1 H;have re:=El.ml _ K;have rf:=El.ml _ H;have qe:=El.b_sq _ K;have qf:=El.b_sq _ H;have c:=(CF _ _ K H).hs;simp only[<-hs,<-ht] at me mf re rf qe qf c;obtain⟨A,hA⟩:∃A,A=cdiv ((s+t)*a) s+cdiv ((s+t)*o) t:=⟨_,rfl⟩;obtain⟨D,hD⟩:∃D,D=cdiv ((s+t)*d) s+cdiv ((s+t)*q) t:=⟨_,rfl⟩;obtain⟨B,hB⟩:∃B,B=((s+t)*b).fdiv s+((s+t)*F).fdiv t:=⟨_,rfl⟩
 have PA : Hid (∀ w f i l, w.cell? ⟨f, 0, none⟩ = some (.int .i64 s)->w.cell? ⟨i, 0, none⟩ = some (.int .i64 t)->w.heap[l]? = some (.cells #[.int .i64 0] 46 (0, 0))->
     zR 81 #[.func (.func 82) #[] #[],a,o,.pointer (some ⟨f,0,none⟩),.pointer (some ⟨i,0,none⟩),.pointer (some ⟨l,0,none⟩)] w (.int .i64 A)):=
  fun w f i l h6 h7 h8=>by rw[hA];exact tZ s t a o f i l w c (by omega) (by omega) h6 h7 h8
 have PD : Hid (∀ w f i l, w.cell? ⟨f, 0, none⟩ = some (.int .i64 s)->w.cell? ⟨i, 0, none⟩ = some (.int .i64 t)->w.heap[l]? = some (.cells #[.int .i64 0] 46 (0, 0))->
     zR 81 #[.func (.func 82) #[] #[],d,q,.pointer (some ⟨f,0,none⟩),.pointer (some ⟨i,0,none⟩),.pointer (some ⟨l,0,none⟩)] w (.int .i64 D)):=
  fun w f i l h6 h7 h8=>by rw[hD];exact tZ s t d q f i l w c (by omega) (by omega) h6 h7 h8
 have PB : Hid (∀ w f i l, w.cell? ⟨f, 0, none⟩ = some (.int .i64 s)->w.cell? ⟨i, 0, none⟩ = some (.int .i64 t)->w.heap[l]? = some (.cells #[.int .i64 0] 46 (0, 0))->
     zR 81 #[.func (.func 83) #[] #[],b,F,.pointer (some ⟨f,0,none⟩),.pointer (some ⟨i,0,none⟩),.pointer (some ⟨l,0,none⟩)] w (.int .i64 B)):=
  fun w f i l h6 h7 h8=>by rw[hB];exact vC s t b F f i l w c (by omega) (by omega) h6 h7 h8
 have d3 : -600000000000000<=A/\A<=600000000000000/\-600000000000000<=D/\D<=600000000000000:=by
  have a1:=(eX s t a c.1 c.2.1 c.2.2.1 c.2.2.2 (by omega) (by omega) (by omega)).2;have a2:=(eX t s o c.2.2.1 c.2.2.2 c.1 c.2.1 (by omega) (by omega) (by omega)).2;have a3:=(eX s t d c.1 c.2.1 c.2.2.1 c.2.2.2 (by omega) (by omega) (by omega)).2;have a4:=(eX t s q c.2.2.1 c.2.2.2 c.1 c.2.1 (by omega) (by omega) (by omega)).2;rw[Int.add_comm t s] at a2 a4;omega
 have SU:dV ⟨x,y,a,b,d⟩ ⟨j,k,o,F,q⟩=⟨x+j,y+k,A+2,B,D+2⟩:=by
  unfold dV;simp only[<-hs,<-ht,<-hA,<-hB,<-hD]
 have E:Hid (sumE ⟨x,y,a,b,d⟩ ⟨j,k,o,F,q⟩=if El.may ⟨x+j,y+k,A+2,B,D+2⟩=true then (⟨x+j,y+k,A+2,B,D+2⟩,0) else (El.zero,2)):=by
  show _=_;unfold sumE;rw[if_pos ⟨K,H⟩,SU]
 obtain⟨d8,e3,f1,d9⟩:=d3;obtain⟨⟨e8,d6,e1,e2⟩,-⟩:=me;obtain⟨⟨e5,e0,d7,f2⟩,-⟩:=mf;obtain⟨m,hm⟩:∃m,m=El.may ⟨x+j,y+k,A+2,B,D+2⟩:=⟨_,rfl⟩;have HM:=Lh hm.symm;rw[HM.out] at E;clear K H hs ht re rf qe qf c hA hB hD SU hm;go_enter func36,ntmps36;go_wp2_with fail;refine(bD _ _ _ _ _ _).mono ?_;rintro e w1 ⟨rfl,b6⟩;rw[HE.out];have b1:=b6.size;(try simp at b1);have b8:=bq3 b6 (w.heap.size);go_wp2_with fail;refine(bD _ _ _ _ _ _).mono ?_;rintro e C ⟨rfl,b4⟩;rw[HF.out];have b2:=b4.size;(try simp at b2);have c0:=bq3 b4 (w.heap.size);go_wp2_with fail
 go_cut [6,7] from 8 (fun s6 s7 wc=>∃g h,s6=.pointer (some ⟨g,0,none⟩)/\s7=.pointer (some ⟨h,0,none⟩)/\w.heap.size+1+1+1<=g/\g<wc.heap.size/\w.heap.size+1+1+1<=h/\h<wc.heap.size/\
  wc.cell? ⟨g,0,none⟩=some (.int .i64 s)/\wc.cell? ⟨h,0,none⟩=some (.int .i64 t)/\Hid (zB C wc))
 case first=>
  go_region_held3 (fun z => z.cell? ⟨w.heap.size, 0, none⟩ = some (.int .i64 x)/\z.cell? ⟨w.heap.size, 1, none⟩ = some (.int .i64 y)/\z.cell? ⟨w.heap.size, 2, none⟩ = some (.int .i64 a)/\z.cell? ⟨w.heap.size, 3, none⟩ = some (.int .i64 b)/\z.cell? ⟨w.heap.size, 4, none⟩ = some (.int .i64 d)/\
      z.cell? ⟨w.heap.size+1,0,none⟩=some (.int .i64 j)/\z.cell? ⟨w.heap.size+1,1,none⟩=some (.int .i64 k)/\z.cell? ⟨w.heap.size+1,2,none⟩=some (.int .i64 o)/\z.cell? ⟨w.heap.size+1,3,none⟩=some (.int .i64 F)/\z.cell? ⟨w.heap.size+1,4,none⟩=some (.int .i64 q)) (go_simp)
   (first
   | (go_at_call 80;refine(mO x y a b d _).mono ?_;rintro e w3 ⟨rfl,u⟩;rw[HS.out];have b0:=u.size;(try simp at b0);have b7:=bq3 u (w.heap.size);(try (refine aI (bk u (C.heap.size)) ?_ ?_;(focus (first|omega|(simp;done)|(simp;omega)));rintro⟨y_w3_q1,c_w3_q1,f_w3_q1,r_w3_q1,t_w3_q1,p_w3_q1⟩;have S:¬(w.heap.size=C.heap.size):=(by omega);have W:¬(w.heap.size+1=C.heap.size):=(by omega);have U:¬(w.heap.size+1+1=C.heap.size):=(by omega)));(try (refine aI (bk u (C.heap.size+1)) ?_ ?_;(focus (first|omega|(simp;done)|(simp;omega)));rintro⟨y_w3_q2,c_w3_q2,f_w3_q2,r_w3_q2,t_w3_q2,p_w3_q2⟩));(try (refine aI (bk u (w4.heap.size)) ?_ ?_;(focus (first|omega|(simp;done)|(simp;omega)));rintro⟨y_w3_q3,c_w3_q3,f_w3_q3,r_w3_q3,t_w3_q3,p_w3_q3⟩;have M:¬(w.heap.size=w4.heap.size):=(by omega);have N:¬(w.heap.size+1=w4.heap.size):=(by omega);have L:¬(w.heap.size+1+1=w4.heap.size):=(by omega)));(try (refine aI (bk u (w4.heap.size+1)) ?_ ?_;(focus (first|omega|(simp;done)|(simp;omega)));rintro⟨y_w3_q4,c_w3_q4,f_w3_q4,r_w3_q4,t_w3_q4,p_w3_q4⟩)))
   | (go_at_call 80;refine(mO j k o F q _).mono ?_;rintro e w4 ⟨rfl,n⟩;rw[HT.out];have a9:=n.size;(try simp at a9);have d0:=bq3 n (w.heap.size);(try (refine aI (bk n (C.heap.size)) ?_ ?_;(focus (first|omega|(simp;done)|(simp;omega)));rintro⟨y_w4_q1,c_w4_q1,f_w4_q1,r_w4_q1,t_w4_q1,p_w4_q1⟩;have a0:¬(w.heap.size=C.heap.size):=(by omega);have Z:¬(w.heap.size+1=C.heap.size):=(by omega);have a5:¬(w.heap.size+1+1=C.heap.size):=(by omega)));(try (refine aI (bk n (C.heap.size+1)) ?_ ?_;(focus (first|omega|(simp;done)|(simp;omega)));rintro⟨y_w4_q2,c_w4_q2,f_w4_q2,r_w4_q2,t_w4_q2,p_w4_q2⟩));(try (refine aI (bk n (w3.heap.size)) ?_ ?_;(focus (first|omega|(simp;done)|(simp;omega)));rintro⟨y_w4_q3,c_w4_q3,f_w4_q3,r_w4_q3,t_w4_q3,p_w4_q3⟩;have R:¬(w.heap.size=w3.heap.size):=(by omega);have T:¬(w.heap.size+1=w3.heap.size):=(by omega);have Y:¬(w.heap.size+1+1=w3.heap.size):=(by omega)));(try (refine aI (bk n (w3.heap.size+1)) ?_ ?_;(focus (first|omega|(simp;done)|(simp;omega)));rintro⟨y_w4_q4,c_w4_q4,f_w4_q4,r_w4_q4,t_w4_q4,p_w4_q4⟩))))
  all_goals go_wp2_with fail
  all_goals go_meet
  all_goals exact⟨_,_,rfl,rfl,(by first|omega|(simp;done)|(simp;omega)|fail),(by first|omega|(simp;done)|(simp;omega)|fail),(by first|omega|(simp;done)|(simp;omega)|fail),(by first|omega|(simp;done)|(simp;omega)|fail),(by go_simp),(by go_simp),(show zB C _ from ad)⟩
 case rest=>
  obtain⟨g,h,rfl,rfl,e4,e7,e6,e9,d5,f0,d4⟩:=hcut;have G:=d4.out;have a7:=G.size;(try simp at a7);have V:=bq G (w.heap.size);have X:=bq G (w.heap.size+1);have O:=bq G (w.heap.size+1+1);go_wp2_with fail;refine(PA.out _ _ _ _ (by go_simp) (by go_simp) ((Blk.new wc #[.int .i64 0] 46).alloc _)).mono ?_;rintro e w5 ⟨rfl,p⟩;have B5:=Lh (((Blk.new wc #[.int .i64 0] 46).alloc _).keep p);have a6:=p.size;(try simp at a6);have c3:=bq3 p (w.heap.size);have c9:=bq2 p (wc.heap.size);have c8:=bq p (g);have c4:=bq p (h);go_wp2_with fail;refine(PD.out _ _ _ _ (by go_simp) (by go_simp) (B5.out.ac (by simp) _)).mono ?_;rintro e w6 ⟨rfl,v⟩;have B6:=Lh (Blk.keep (B5.out.ac (by simp) _) v);have a8:=v.size;(try simp at a8);have d2:=bq3 v (w.heap.size);have b9:=bq2 v (wc.heap.size);have d1:=bq v (g);have c6:=bq v (h);go_wp2_with fail;refine(PB.out _ _ _ _ (by go_simp) (by go_simp) (B6.out.ac (by simp) _)).mono ?_;rintro e w7 ⟨rfl,I⟩;have b3:=I.size;(try simp at b3);have c2:=bq3 I (w.heap.size);have c1:=bq2 I (wc.heap.size);go_wp2_with fail;refine(bD _ _ _ _ _ _).mono ?_;rintro e w8 ⟨rfl,J⟩;rw[HM.out];have b5:=J.size;(try simp at b5);have c7:=bq3 J (w.heap.size);have c5:=bq2 J (wc.heap.size);cases m with
  | true=>
   go_wp2_with fail;exact rT 5 #[.int .i64 (x+j),.int .i64 (y+k),.int .i64 (A+2),.int .i64 B,.int .i64 (D+2)] (.int .i64 0) ⟨by rw[E.out];rfl,ad⟩
  | false=>
   go_wp2_with fail;exact rT 5 z5 (.int .i64 2) ⟨by rw[E.out];rfl,ad⟩
theorem Db(x y a b d i k n m l:Int)(o:El.may ⟨x,y,a,b,d⟩=false)(w:World):Calls prog 36 #[elC x y a b d,elC i k n m l] w fun r q=>
   r=.returned (.tuple #[elV (sumE ⟨x,y,a,b,d⟩ ⟨i,k,n,m,l⟩).1,.int .i64 (sumE ⟨x,y,a,b,d⟩ ⟨i,k,n,m,l⟩).2])/\zB w q:=by
 have p:=Lh o
 have E:Hid (sumE ⟨x,y,a,b,d⟩ ⟨i,k,n,m,l⟩=(El.zero,1)):=by
  show _=_;unfold sumE;rw[if_neg];rintro⟨h,_⟩;rw[o] at h;cases h
 clear o;go_enter func36,ntmps36;go_wp2_with fail;refine(bD _ _ _ _ _ _).mono ?_;rintro e s ⟨rfl,c⟩;rw[p.out];have f:=c.size;(try simp at f);have j:=bq3 c (w.heap.size);go_wp2_with fail;exact rT 5 z5 (.int .i64 1) ⟨by rw[E.out];rfl,ad⟩
theorem Da(x y a b d c i k m j:Int)(t:El.may ⟨x,y,a,b,d⟩=true)(s:El.may ⟨c,i,k,m,j⟩=false)(w:World):Calls prog 36 #[elC x y a b d,elC c i k m j] w fun r z=>
   r=.returned (.tuple #[elV (sumE ⟨x,y,a,b,d⟩ ⟨c,i,k,m,j⟩).1,.int .i64 (sumE ⟨x,y,a,b,d⟩ ⟨c,i,k,m,j⟩).2])/\zB w z:=by
 have u:=Lh t;have v:=Lh s
 have E:Hid (sumE ⟨x,y,a,b,d⟩ ⟨c,i,k,m,j⟩=(El.zero,1)):=by
  show _=_;unfold sumE;rw[if_neg];rintro⟨_,h⟩;rw[s] at h;cases h
 clear t s;go_enter func36,ntmps36;go_wp2_with fail;refine(bD _ _ _ _ _ _).mono ?_;rintro e A ⟨rfl,l⟩;rw[u.out];have o:=l.size;(try simp at o);have p:=bq3 l (w.heap.size);go_wp2_with fail;refine(bD _ _ _ _ _ _).mono ?_;rintro e B ⟨rfl,n⟩;rw[v.out];have f:=n.size;(try simp at f);have q:=bq3 n (w.heap.size);go_wp2_with fail;exact rT 5 z5 (.int .i64 1) ⟨by rw[E.out];rfl,ad⟩
theorem Fd(e f:El)(w:World):zR 36 #[elV e,elV f] w (.tuple #[elV (sumE e f).1,.int .i64 (sumE e f).2]):=by
 cases he:e.may with
 | false=>exact Db _ _ _ _ _ _ _ _ _ _ he w
 | true=>
  cases hf:f.may with
  | false=>exact Da _ _ _ _ _ _ _ _ _ _ he hf w
  | true=>exact xd _ _ _ _ _ _ _ _ _ _ he hf w
theorem Fb(x y a b d e f c j i:Int)(o:El)(k:Int)(h:sumE ⟨x,y,a,b,d⟩ ⟨e,f,c,j,i⟩=(o,k))(w:World):zR 36 #[elC x y a b d,elC e f c j i] w (.tuple #[elV o,k]):=by
 have:=Fd ⟨x,y,a,b,d⟩ ⟨e,f,c,j,i⟩ w;rw[h] at this;exact this
theorem fE(x y r:Int)(b c a e d k:Int)(h:ballE x y r=(⟨b,c,a,e,d⟩,k))(w:World):zR 35 #[ptV x y,r] w (.tuple #[elC b c a e d,k]):=by
 have:=wv x y r w;rw[h] at this;exact this
theorem sT(x y a b d r:Int)(w:World):zR 14 #[elC x y a b d,r] w (.tuple #[elV (growE ⟨x,y,a,b,d⟩ r).1,.int .i64 (growE ⟨x,y,a,b,d⟩ r).2]):=by
 have E:growE ⟨x,y,a,b,d⟩ r=if El.may ⟨x,y,a,b,d⟩=true/\0<=r/\r<=4194304 then (if r=0 then (⟨x,y,a,b,d⟩,0) else sumE ⟨x,y,a,b,d⟩ (ballE 0 0 r).1) else (El.zero,1):=rfl
 cases hm:El.may ⟨x,y,a,b,d⟩ with
 | false=>
  have p:=Lh hm;have l:Hid (growE ⟨x,y,a,b,d⟩ r=(El.zero,1)):=by show _=_;rw[E,hm,if_neg];rintro⟨h,_⟩;cases h
  clear E hm;go_enter func14,ntmps14;go_wp2_with fail;refine(bD _ _ _ _ _ _).mono ?_;rintro e u ⟨rfl,c⟩;rw[p.out];have f:=c.size;(try simp at f);have i:=bq c (w.heap.size);have j:=bq c (w.heap.size+1);go_wp2_with fail;exact rT 5 z5 (.int .i64 1) ⟨by rw[l.out];rfl,ad⟩
 | true=>
  have p:=Lh hm;by_cases O:r<0
  ·have l:Hid (growE ⟨x,y,a,b,d⟩ r=(El.zero,1)):=by show _=_;rw[E,hm,if_neg];rintro⟨_,h,_⟩;omega
   clear E hm;go_enter func14,ntmps14;go_wp2_with fail;refine(bD _ _ _ _ _ _).mono ?_;rintro e u ⟨rfl,c⟩;rw[p.out];have f:=c.size;(try simp at f);have i:=bq c (w.heap.size);have j:=bq c (w.heap.size+1);go_wp2_with fail;exact rT 5 z5 (.int .i64 1) ⟨by rw[l.out];rfl,ad⟩
  ·by_cases M:4194304<r
   ·have l:Hid (growE ⟨x,y,a,b,d⟩ r=(El.zero,1)):=by show _=_;rw[E,hm,if_neg];rintro⟨_,_,h⟩;omega
    clear E hm;go_enter func14,ntmps14;go_wp2_with fail;refine(bD _ _ _ _ _ _).mono ?_;rintro e u ⟨rfl,c⟩;rw[p.out];have f:=c.size;(try simp at f);have i:=bq c (w.heap.size);have j:=bq c (w.heap.size+1);go_wp2_with fail;exact rT 5 z5 (.int .i64 1) ⟨by rw[l.out];rfl,ad⟩
   ·rw[hm,if_pos ⟨rfl,by omega,by omega⟩] at E;by_cases F:r=0
    ·subst F;have l:Hid (growE ⟨x,y,a,b,d⟩ 0=(⟨x,y,a,b,d⟩,0)):=by show _=_;rw[E,if_pos rfl]
     clear E hm O M;go_enter func14,ntmps14;go_wp2_with fail;refine(bD _ _ _ _ _ _).mono ?_;rintro e u ⟨rfl,c⟩;rw[p.out];have f:=c.size;(try simp at f);have i:=bq c (w.heap.size);have j:=bq c (w.heap.size+1);go_wp2_with fail;exact rT 5 #[.int .i64 x,.int .i64 y,.int .i64 a,.int .i64 b,.int .i64 d] (.int .i64 0) ⟨by rw[l.out],ad⟩
    ·rw[if_neg F] at E;have v:ballE 0 0 r=(⟨0,0,r*r,0,r*r⟩,0):=by unfold ballE;rw[if_pos ⟨by decide,by omega,by omega⟩]
     rw[v] at E;obtain⟨s,I⟩:∃s,s=r*r:=⟨_,rfl⟩;simp only[<-I] at v E;obtain⟨⟨L,H,J,G,K⟩,k,B⟩:∃o k,sumE ⟨x,y,a,b,d⟩ ⟨0,0,s,0,s⟩=(o,k):=⟨_,_,rfl⟩;have l:Hid (growE ⟨x,y,a,b,d⟩ r=(⟨L,H,J,G,K⟩,k)):=by show _=_;rw[E,B]
     have R:=Lh v;have N:=Lh B;clear E hm v B I;go_enter func14,ntmps14;go_wp2_with fail;refine(bD _ _ _ _ _ _).mono ?_;rintro e u ⟨rfl,c⟩;rw[p.out];have f:=c.size;(try simp at f);have i:=bq c (w.heap.size);have j:=bq c (w.heap.size+1);go_wp2_with fail;refine(fE _ _ _ _ _ _ _ _ _ R.out _).mono ?_;rintro e T ⟨rfl,n⟩;have q:=n.size;(try simp at q);have A:=bq n (w.heap.size);have C:=bq n (w.heap.size+1);go_wp2_with fail;refine(Fb _ _ _ _ _ _ _ _ _ _ _ _ N.out _).mono ?_;rintro e S ⟨rfl,m⟩;have t:=m.size;(try simp at t);have D:=bq m (w.heap.size);have z:=bq m (w.heap.size+1);go_wp2_with fail;exact rT 5 #[.int .i64 L,.int .i64 H,.int .i64 J,.int .i64 G,.int .i64 K] (.int .i64 k) ⟨by rw[l.out],ad⟩
theorem sO(x y a b d r e f c j i k:Int)(h:growE ⟨x,y,a,b,d⟩ r=(⟨e,f,c,j,i⟩,k))(w:World):zR 14 #[elC x y a b d,r] w (.tuple #[elC e f c j i,k]):=by
 have:=sT x y a b d r w;rw[h] at this;exact this
theorem Vh(x y a b d v n:Int)(B:n<=9223372036854775807)(w:World):zR 40 #[elC x y a b d,v,n] w (.tuple #[elV (ageE ⟨x,y,a,b,d⟩ v n).1,.int .i64 (ageE ⟨x,y,a,b,d⟩ v n).2]):=by
 have E:ageE ⟨x,y,a,b,d⟩ v n=if El.may ⟨x,y,a,b,d⟩=true/\0<=v/\0<=n then (if 0<n/\(4194304:Int).tdiv n<v then (El.zero,2) else growE ⟨x,y,a,b,d⟩ (v*n)) else (El.zero,1):=rfl
 cases hm:El.may ⟨x,y,a,b,d⟩ with
 | false=>
  have t:=Lh hm;have r:Hid (ageE ⟨x,y,a,b,d⟩ v n=(El.zero,1)):=by show _=_;rw[E,hm,if_neg];rintro⟨h,_⟩;cases h
  clear E hm B;go_enter func40,ntmps40;go_wp2_with fail;refine(bD _ _ _ _ _ _).mono ?_;rintro e C ⟨rfl,c⟩;rw[t.out];have f:=c.size;(try simp at f);have i:=bq c (w.heap.size);have j:=bq c (w.heap.size+1);go_wp2_with fail;exact rT 5 z5 (.int .i64 1) ⟨by rw[r.out];rfl,ad⟩
 | true=>
  have t:=Lh hm;by_cases W:v<0
  ·have r:Hid (ageE ⟨x,y,a,b,d⟩ v n=(El.zero,1)):=by show _=_;rw[E,hm,if_neg];rintro⟨_,h,_⟩;omega
   clear E hm B;go_enter func40,ntmps40;go_wp2_with fail;refine(bD _ _ _ _ _ _).mono ?_;rintro e C ⟨rfl,c⟩;rw[t.out];have f:=c.size;(try simp at f);have i:=bq c (w.heap.size);have j:=bq c (w.heap.size+1);go_wp2_with fail;exact rT 5 z5 (.int .i64 1) ⟨by rw[r.out];rfl,ad⟩
  ·by_cases N:n<0
   ·have r:Hid (ageE ⟨x,y,a,b,d⟩ v n=(El.zero,1)):=by show _=_;rw[E,hm,if_neg];rintro⟨_,_,h⟩;omega
    clear E hm B;go_enter func40,ntmps40;go_wp2_with fail;refine(bD _ _ _ _ _ _).mono ?_;rintro e C ⟨rfl,c⟩;rw[t.out];have f:=c.size;(try simp at f);have i:=bq c (w.heap.size);have j:=bq c (w.heap.size+1);go_wp2_with fail;exact rT 5 z5 (.int .i64 1) ⟨by rw[r.out];rfl,ad⟩
   ·rw[hm,if_pos ⟨rfl,by omega,by omega⟩] at E;obtain⟨q,u⟩:∃q,q=(4194304:Int).tdiv n:=⟨_,rfl⟩;by_cases H:0<n
    ·have s:q=4194304/n:=by rw[u,Int.tdiv_eq_ediv_of_nonneg (by decide)]
     have q0:0<=q/\q<=4194304:=⟨by rw[s];exact Int.ediv_nonneg (by decide) (by omega),by rw[s];exact Int.ediv_le_self _ (by decide)⟩;have T:wrap64 ((4194304:Int).tdiv n)=q:=by rw[<-u];unfold wrap64;omega
     have Y:¬n=0:=by omega
     by_cases Z:q<v
     ·have r:Hid (ageE ⟨x,y,a,b,d⟩ v n=(El.zero,2)):=by show _=_;rw[E,if_pos ⟨H,by omega⟩]
      have R:(4194304:Int).tdiv n=q:=u.symm;clear E hm B s u;go_enter func40,ntmps40;go_wp2_with fail;refine(bD _ _ _ _ _ _).mono ?_;rintro e C ⟨rfl,c⟩;rw[t.out];have f:=c.size;(try simp at f);have i:=bq c (w.heap.size);have j:=bq c (w.heap.size+1);go_wp2_with fail;exact rT 5 z5 (.int .i64 2) ⟨by rw[r.out];rfl,ad⟩
     ·obtain⟨p,D⟩:∃p,p=v*n:=⟨_,rfl⟩;have p0:0<=p:=by rw[D];exact Int.mul_nonneg (by omega) (by omega)
      have S:p<=4194304:=by
       have X:v*n<=q*n:=Int.mul_le_mul_of_nonneg_right (by omega) (by omega);have U:q*n<=4194304:=by rw[s];exact Int.ediv_mul_le _ (by omega)
       omega
      rw[if_neg (by rintro⟨_,h⟩;omega),<-D] at E;obtain⟨⟨K,J,L,I,M⟩,k,G⟩:∃o k,growE ⟨x,y,a,b,d⟩ p=(o,k):=⟨_,_,rfl⟩;have r:Hid (ageE ⟨x,y,a,b,d⟩ v n=(⟨K,J,L,I,M⟩,k)):=by show _=_;rw[E,G]
      have F:=Lh G;have R:(4194304:Int).tdiv n=q:=u.symm;have V:v*n=p:=D.symm;clear E hm B s u D G;go_enter func40,ntmps40;go_wp2_with fail;refine(bD _ _ _ _ _ _).mono ?_;rintro e C ⟨rfl,c⟩;rw[t.out];have f:=c.size;(try simp at f);have i:=bq c (w.heap.size);have j:=bq c (w.heap.size+1);go_wp2_with fail;refine(sO _ _ _ _ _ _ _ _ _ _ _ _ F.out _).mono ?_;rintro e O ⟨rfl,l⟩;have m:=l.size;(try simp at m);have z:=bq l (w.heap.size);have A:=bq l (w.heap.size+1);go_wp2_with fail;exact rT 5 #[.int .i64 K,.int .i64 J,.int .i64 L,.int .i64 I,.int .i64 M] (.int .i64 k) ⟨by rw[r.out],ad⟩
    ·obtain rfl:n=0:=by omega
     rw[if_neg (by rintro⟨h,_⟩;omega),Int.mul_zero] at E;have r:Hid (ageE ⟨x,y,a,b,d⟩ v 0=(⟨x,y,a,b,d⟩,0)):=by show _=_;rw[E,IS _ hm]
     have F:Hid (growE ⟨x,y,a,b,d⟩ 0=(⟨x,y,a,b,d⟩,0)):=IS _ hm;clear E hm B u N H;go_enter func40,ntmps40;go_wp2_with fail;refine(bD _ _ _ _ _ _).mono ?_;rintro e C ⟨rfl,c⟩;rw[t.out];have f:=c.size;(try simp at f);have i:=bq c (w.heap.size);have j:=bq c (w.heap.size+1);go_wp2_with fail;refine(sO _ _ _ _ _ _ _ _ _ _ _ _ F.out _).mono ?_;rintro e O ⟨rfl,l⟩;have m:=l.size;(try simp at m);have z:=bq l (w.heap.size);have A:=bq l (w.heap.size+1);go_wp2_with fail;exact rT 5 #[.int .i64 x,.int .i64 y,.int .i64 a,.int .i64 b,.int .i64 d] (.int .i64 0) ⟨by rw[r.out],ad⟩
theorem Vg(x y a b d v n e f c j i k:Int)(l:n<=9223372036854775807)(h:ageE ⟨x,y,a,b,d⟩ v n=(⟨e,f,c,j,i⟩,k))(w:World):zR 40 #[elC x y a b d,v,n] w (.tuple #[elC e f c j i,k]):=by
 have:=Vh x y a b d v n l w;rw[h] at this;exact this
theorem gO(x y a b d t:Int)(h:El.tr ⟨x,y,a,b,d⟩=t)(w:World):zR 13 #[elC x y a b d] w (.int .i64 t):=by
 subst h;exact tO x y a b d w
theorem aN(x y a b d:Int)(m:Bool)(h:El.may ⟨x,y,a,b,d⟩=m)(w:World):zR 34 #[elC x y a b d] w (.bool m):=by
 subst h;exact bD x y a b d w
theorem BI(x y a b d p q:Int)(t:Bool)(h:El.has ⟨x,y,a,b,d⟩ p q=t)(w:World):zR 15 #[elC x y a b d,ptV p q] w (.bool t):=by
 subst h;exact BJ x y a b d p q w
structure eV where
 obj:Obj
 ptr:Nat->Value
structure Inw (w0:World) (fr:Nat->Option eV) (g:Nat->Nat) (N:List Nat) where
 w:World
 low:zB w0 w
 has:∀j∈N,∀f,fr j=some f->w0.heap.size<=g j/\w.heap[g j]?=some f.obj
theorem ja{w:World}{b:Nat}{o:Obj}(h:w.heap[b]?=some o):b<w.heap.size:=(Array.getElem?_eq_some_iff.1 h).1
theorem Inw.step{w0:World}{fr:Nat->Option eV}{g:Nat->Nat}{N:List Nat}(p:Inw w0 fr g N){w':World}(h:Below p.w.heap.size p.w w'):∃c:Inw w0 fr g N,w'=c.w:=by
 refine⟨⟨w',⟨h.os.trans p.low.os,h.tape.trans p.low.tape,h.output.trans p.low.output,Nat.le_trans p.low.size h.size,fun k a=>?_⟩,fun j b f d=>?_⟩,rfl⟩
 ·rw[h.block k (Nat.lt_of_lt_of_le a p.low.size)];exact p.low.block k a
 ·have:=p.has j b f d;exact⟨this.1,by rw[h.block _ (ja this.2)];exact this.2⟩
theorem aF{P:Program}{f:FuncId}{a:Array Value}{w0:World}{fr:Nat->Option eV}{g:Nat->Nat}{N:List Nat}{p:Inw w0 fr g N}{v:Value}(h:Calls P f a p.w fun e c=>e=.returned v/\Below p.w.heap.size p.w c):Calls P f a p.w fun e b=>e=.returned v/\∃j:Inw w0 fr g N,b=j.w:=
 h.mono fun _ _ ⟨d,i⟩=>⟨d,p.step i⟩
def mP(dst:Option Tmp)(a:Act):Value:=match dst with|some d=>a.tmps.getD d undef|none=>undef
def fO(P:Program)(ops:Array Oper)(w0:World)(fr:Nat->Option eV)(needs:Nat->List Nat)(vals:List Value)(g:Nat->Nat)(Q:Act->Prop):List Oper->Nat->Act->Prop
 | [],_,a=>Q a
 | o :: rest,k,a=>
  match fr k with
  | some f=>Region.wanted o (yielded ops a.tmps)=true/\(∀w,(execOp a.eval o).run P w=.ok (.value (f.ptr w.heap.size)) (w.alloc f.obj))/\fO P ops w0 fr needs vals g Q rest (k+1) (a.put o.dst (f.ptr (g k)))
  | none=>wpQuiet P ops (fun w'=>∃p:Inw w0 fr g (needs k),w'=p.w) (fun a'=>mP o.dst a'=vals.getD k undef/\fO P ops w0 fr needs vals g Q rest (k+1) a') [o] a
section
variable {P:Program} {ops:Array Oper} {w0:World} {fr:Nat->Option eV} {needs:Nat->List Nat} {vals:List Value} {g:Nat->Nat} {Q:Act->Prop}
theorem bF{k:Nat}{a:Act}(h:Q a):fO P ops w0 fr needs vals g Q [] k a:=h
theorem bi{o:Oper}{rest:List Oper}{k:Nat}{a:Act}(d:fr k=none)(h:wpQuiet P ops (fun c=>∃p:Inw w0 fr g (needs k),c=p.w) (fun b=>mP o.dst b=vals.getD k undef/\fO P ops w0 fr needs vals g Q rest (k+1) b) [o] a):fO P ops w0 fr needs vals g Q (o :: rest) k a:=by
 unfold fO;rw[d];exact h
theorem bK{o:Oper}{rest:List Oper}{k:Nat}{a:Act}(f:eV)(d:fr k=some f)(b:Region.wanted o (yielded ops a.tmps)=true)(c:∀w,(execOp a.eval o).run P w=.ok (.value (f.ptr w.heap.size)) (w.alloc f.obj))(h:fO P ops w0 fr needs vals g Q rest (k+1) (a.put o.dst (f.ptr (g k)))):fO P ops w0 fr needs vals g Q (o :: rest) k a:=by
 unfold fO;rw[d];exact⟨b,c,h⟩
def eL(fr:Nat->Option eV)(vals:List Value)(g:Nat->Nat)(k:Nat):Value:=match fr k with|some f=>f.ptr (g k)|none=>vals.getD k undef
def actAt(fr:Nat->Option eV)(vals:List Value)(g:Nat->Nat):List Oper->Nat->Act->Act
 | [],_,a=>a
 | o :: rest,k,a=>actAt fr vals g rest (k+1) (a.put o.dst (eL fr vals g k))
theorem si(a:Act)(b:Option Tmp)(v u:Value)(h:mP b (a.put b v)=u):a.put b v=a.put b u:=by
 cases b with
 | none=>rfl
 | some d=>
  simp only[mP,Act.put] at h ⊢;by_cases e:d<a.tmps.size
  ·simp[e] at h;rw[h]
  ·congr 1
   apply Array.ext_getElem?;intro i;by_cases c:d=i
   ·subst c;simp[e]
   ·simp[c]
theorem fN:∀(l:List Oper) (k:Nat) (a:Act),fO P ops w0 fr needs vals g Q l k a->
  Q (actAt fr vals g l k a)/\∀j o,l[j]?=some o->
   match fr (k+j) with
   | some f=>Region.wanted o (yielded ops (actAt fr vals g (l.take j) k a).tmps)=true/\∀w,(execOp (actAt fr vals g (l.take j) k a).eval o).run P w=.ok (.value (f.ptr w.heap.size)) (w.alloc f.obj)
   | none=>∃v,(actAt fr vals g (l.take j) k a).put o.dst v=(actAt fr vals g (l.take j) k a).put o.dst (eL fr vals g (k+j))/\YieldsIn P ops (fun q=>∃p:Inw w0 fr g (needs (k+j)),q=p.w) o v (actAt fr vals g (l.take j) k a)
 | [],k,a,h=>⟨h,fun j o x=>by simp at x⟩
 | o :: l,k,a,h=>by
  unfold fO at h
  cases hf:fr k with
  | some f=>
   rw[hf] at h
   obtain⟨c,z,h⟩:=h
   have m:eL fr vals g k=f.ptr (g k):=by unfold eL;rw[hf]
   obtain⟨i,d⟩:=fN l (k+1) _ h
   refine⟨by unfold actAt;rw[m];exact i,fun j e b=>?_⟩
   rcases j with _|j
   ·obtain rfl:o=e:=by simpa using b
    simp only[Nat.add_zero,hf,List.take_zero,actAt]
    exact⟨c,z⟩
   ·have:=d j e (by simpa using b)
    rw[show k+1+j=k+(j+1) by omega] at this
    simp only[List.take_succ_cons,actAt,m]
    exact this
  | none=>
   rw[hf] at h
   simp only[wpQuiet] at h
   have n:∃v,YieldsIn P ops (fun q=>∃p:Inw w0 fr g (needs k),q=p.w) o v a/\mP o.dst (a.put o.dst v)=vals.getD k undef/\fO P ops w0 fr needs vals g Q l (k+1) (a.put o.dst v):=by
    by_cases c:Region.wanted o (yielded ops a.tmps)=true
    ·rw[if_pos c] at h;obtain⟨v,i,d,t⟩:=h;exact⟨v,.inl ⟨c,i⟩,d,t⟩
    ·rw[if_neg c] at h;exact⟨undef,.inr ⟨by simpa using c,rfl⟩,h⟩
   obtain⟨v,u,y,s⟩:=n;have m:eL fr vals g k=vals.getD k undef:=by unfold eL;rw[hf]
   have r:=si a o.dst v _ y;rw[<-m] at r;rw[r] at s;obtain⟨i,d⟩:=fN l (k+1) _ s;refine⟨by unfold actAt;exact i,fun j e b=>?_⟩;rcases j with _|j
   ·obtain rfl:o=e:=by simpa using b
    simp only[Nat.add_zero,hf,List.take_zero,actAt];exact⟨v,r,u⟩
   ·have:=d j e (by simpa using b);rw[show k+1+j=k+(j+1) by omega] at this;simp only[List.take_succ_cons,actAt];exact this
structure cH (ops:Array Oper) (fr:Nat->Option eV) (vals:List Value) (g:Nat->Nat) (n:Nat) (a0:Act) (L:Nat->Prop) (a:Act):Prop where
 defers:a.defers=a0.defers
 size:a.tmps.size=a0.tmps.size
 done:∀k o d,k<n->ops[k]?=some o->L k->o.dst=some d->d<a0.tmps.size->a.tmps[d]?=some (eL fr vals g k)
 rest:∀d,(∀k o,k<n->ops[k]?=some o->L k->o.dst≠some d)->a.tmps[d]? = a0.tmps[d]?
def uF(ops:Array Oper)(n:Nat):Bool:=
 (List.range n).all fun i=>(List.range i).all fun j=>match ops[i]?,ops[j]? with
  | some x,some y=>x.dst.isNone||x.dst != y.dst
  | _,_=>true
theorem tw{n:Nat}(h:uF ops n=true){i j:Nat}{x y:Oper}(m:i<n)(l:j<n)(k:i≠j)(b:ops[i]?=some x)(c:ops[j]?=some y){d:Tmp}(f:x.dst=some d)(e:y.dst=some d):False:=by
 rcases Nat.lt_or_ge j i with a|o
 ·have:=List.all_eq_true.1 (List.all_eq_true.1 h i (List.mem_range.2 m)) j (List.mem_range.2 a);simp[b,c,f,e] at this
 ·have a:i<j:=by omega
  have:=List.all_eq_true.1 (List.all_eq_true.1 h j (List.mem_range.2 l)) i (List.mem_range.2 a);simp[b,c,f,e] at this
theorem cH.put{n:Nat}{a0 a:Act}{L L':Nat->Prop}(h:cH ops fr vals g n a0 L a)(hB:uF ops n=true){i:Nat}{o:Oper}(u:i<n)(r:ops[i]?=some o)(t:∀k,L' k↔(L k∨k=i))(w:¬L i):cH ops fr vals g n a0 L' (a.put o.dst (eL fr vals g i)):=by
 refine⟨?_,?_,?_,?_⟩
 ·cases o.dst<;>exact h.defers
 ·cases c:o.dst with
  | none=>exact h.size
  | some d=>simp only[Act.put,Array.size_setIfInBounds];exact h.size
 ·intro k x d q p f c m;by_cases j:k=i
  ·subst j;obtain rfl:o=x:=Option.some.inj (r.symm.trans p);rw[c];simp only[Act.put];rw[Array.getElem?_setIfInBounds_self_of_lt (by rw[h.size];exact m)]
  ·have l:L k:=by rcases(t k).1 f with h'|h';exact h';exact absurd h' j
   have:=h.done k x d q p l c m;cases hod:o.dst with
   | none=>exact this
   | some s=>
    have b:s≠d:=fun e=>tw hB q u j p r c (by rw[hod,e]);simp only[Act.put];rw[Array.getElem?_setIfInBounds_ne b];exact this
 ·intro d c;have v:=h.rest d fun k x q p f=>c k x q p ((t k).2 (.inl f));cases hod:o.dst with
  | none=>exact v
  | some s=>
   have b:s≠d:=fun e=>c i o u r ((t i).2 (.inr rfl)) (by rw[hod,e]);simp only[Act.put];rw[Array.getElem?_setIfInBounds_ne b];exact v
theorem cH.nil{n:Nat}{a0:Act}{L:Nat->Prop}(c:∀k,k<n->¬L k):cH ops fr vals g n a0 L a0:=
 ⟨rfl,rfl,fun k _ _ b _ a _ _=>absurd a (c k b),fun _ _=>rfl⟩
theorem cH.congr{n:Nat}{a0 a:Act}{L L':Nat->Prop}(h:cH ops fr vals g n a0 L a)(j:∀k,k<n->(L' k↔L k)):cH ops fr vals g n a0 L' a:=
 ⟨h.defers,h.size,fun k o d c e b f i=>h.done k o d c e ((j k c).1 b) f i,fun d f=>h.rest d fun k o c e b=>f k o c e ((j k c).2 b)⟩
theorem cH.turn{n:Nat}{a0 a:Act}{L:Nat->Prop}{g':Nat->Nat}(h:cH ops fr vals g n a0 L a)(i:∀k,k<n->L k->g' k=g k):cH ops fr vals g' n a0 L a:=
 ⟨h.defers,h.size,fun k o d e f b j c=>by
  rw[h.done k o d e f b j c];unfold eL;rw[i k e b],h.rest⟩
theorem gh{n:Nat}{a0:Act}(b:uF ops n=true):∀(l:List Oper) (k:Nat) (a:Act),(∀j,j<l.length->l[j]? = ops[k+j]?)->k+l.length<=n->cH ops fr vals g n a0 (fun j=>j<k) a->
  cH ops fr vals g n a0 (fun j=>j<k+l.length) (actAt fr vals g l k a)
 | [],k,a,_,_,h=>h
 | o :: l,k,a,hl,hn,h=>by
  have e:ops[k]?=some o:=by simpa using(hl 0 (by simp)).symm
  simp only[List.length_cons] at hn
  have d:cH ops fr vals g n a0 (fun j=>j<k+1) (a.put o.dst (eL fr vals g k)):=h.put b (by omega) e (fun j=>by omega) (by omega)
  have c:=gh b l (k+1) _ (fun j f=>by
   have:=hl (j+1) (by simp;omega)
   rw[show k+1+j=k+(j+1) by omega];simpa using this) (by omega) d
  unfold actAt
  exact c.congr fun j _=>by simp only[List.length_cons];omega
theorem cH.same{n:Nat}{a0 a i:Act}{L:Nat->Prop}(h:cH ops fr vals g n a0 L a)(m:cH ops fr vals g n a0 L i):a=i:=by
 have q:=h.defers.trans m.defers.symm
 have r:a.tmps=i.tmps:=by
  apply Array.ext_getElem?;intro d;by_cases e:∃k o,k<n/\ops[k]?=some o/\L k/\o.dst=some d
  ·obtain⟨k,o,p,j,l,c⟩:=e;by_cases b:d<a0.tmps.size
   ·rw[h.done k o d p j l c b,m.done k o d p j l c b]
   ·have v:a.tmps.size<=d:=by rw[h.size];exact Nat.le_of_not_lt b
    have s:i.tmps.size<=d:=by rw[m.size];exact Nat.le_of_not_lt b
    rw[Array.getElem?_eq_none v,Array.getElem?_eq_none s]
  ·have f:∀k o,k<n->ops[k]?=some o->L k->o.dst≠some d:=fun k o p j l c=>e ⟨k,o,p,j,l,c⟩;rw[h.rest d f,m.rest d f]
 obtain⟨t,w⟩:=a;obtain⟨x,u⟩:=i;simp only at r q;rw[r,q]
theorem cH.alike{n:Nat}{a0 a l:Act}{L L':Nat->Prop}(h:cH ops fr vals g n a0 L a)(j:cH ops fr vals g n a0 L' l){o:Oper}(s:∀d,d∈o.looksAt ops->∀k x,k<n->ops[k]?=some x->x.dst=some d->(L k/\L' k)):∀d,d∈o.looksAt ops->a.tmps[d]? = l.tmps[d]?:=by
 intro d r;by_cases e:∃k x,k<n/\ops[k]?=some x/\x.dst=some d
 ·obtain⟨k,x,i,f,b⟩:=e;obtain⟨q,p⟩:=s d r k x i f b;by_cases c:d<a0.tmps.size
  ·rw[h.done k x d i f q b c,j.done k x d i f p b c]
  ·have t:a.tmps.size<=d:=by rw[h.size];exact Nat.le_of_not_lt c
   have m:l.tmps.size<=d:=by rw[j.size];exact Nat.le_of_not_lt c
   rw[Array.getElem?_eq_none t,Array.getElem?_eq_none m]
 ·rw[h.rest d fun k x i f _ b=>e ⟨k,x,i,f,b⟩,j.rest d fun k x i f _ b=>e ⟨k,x,i,f,b⟩]
theorem tp{o:Oper}(e:∀i b,o.op≠.select i b){a c:Act}(h:∀d,d∈o.looksAt ops->a.tmps[d]? = c.tmps[d]?):execOp a.eval o=execOp c.eval o:=
 execOp_congr o e fun x f=>by
  cases x with
  | tmp t=>
   have:=h t (List.mem_append_left _ (List.mem_filterMap.2 ⟨.tmp t,by simpa using f,rfl⟩))
   simp[Act.eval,this]
  | _=>rfl
theorem oL{o:Oper}{a b:Act}(h:∀d,d∈o.looksAt ops->a.tmps[d]? = b.tmps[d]?):Region.wanted o (yielded ops a.tmps)=Region.wanted o (yielded ops b.tmps):=by
 unfold Region.wanted;cases hg:o.guard with
 | none=>rfl
 | some f=>
  obtain⟨k,c⟩:=f
  have e:yielded ops a.tmps k=yielded ops b.tmps k:=by
   unfold yielded;cases ht:(ops[k]?).bind (·.dst) with
   | none=>rfl
   | some t=>
    have:=h t (by simp[Oper.looksAt,hg,ht]);simp[this]
  simp only[e]
def wV(ops:Array Oper)(needs:Nat->List Nat)(n:Nat):Bool:=
 (List.range n).all fun k=>match ops[k]? with
  | none=>false
  | some o => (o.looksAt ops).all (fun d => (List.range n).all fun j => match ops[j]? with
      | some x=>x.dst != some d||Region.waitsFor .any ops k j
      | none=>true)&&(needs k).all (fun j=>Region.waitsFor .any ops k j)&&o.after.all (fun e=>!Region.binds .any e||decide (e.on<k))
def iH(n m:Nat):Array Bool:=((List.range m).map fun k=>decide (k<n)).toArray
def iG(ops:Array Oper)(needs:Nat->List Nat)(n:Nat):Bool:=
 Region.noSelect ops&&decide (n<ops.size)&&Region.sinkB .any ops n&&Region.chainB .any ops n&&uF ops n&&wV ops needs n&&Region.seqB .any ops (ops.size-n) n (iH n ops.size)
theorem jV{n:Nat}(h:wV ops needs n=true){k:Nat}{o:Oper}(r:k<n)(i:ops[k]?=some o):(∀d∈o.looksAt ops,∀j x,j<n->ops[j]?=some x->x.dst=some d->Region.waitsFor .any ops k j=true)/\(∀j∈needs k,Region.waitsFor .any ops k j=true)/\(∀e∈o.after,Region.binds .any e=true->e.on<k):=by
 have:=List.all_eq_true.1 h k (List.mem_range.2 r);simp only[i,Bool.and_eq_true] at this;obtain⟨⟨p,c⟩,f⟩:=this;refine⟨fun d m j x a l b=>?_,fun j a=>List.all_eq_true.1 c j a,fun e q s=>?_⟩
 ·have:=List.all_eq_true.1 (List.all_eq_true.1 p d m) j (List.mem_range.2 a);simp only[l,b,bne_self_eq_false,Bool.false_or] at this;exact this
 ·have:=Array.all_eq_true_iff_forall_mem.1 f e q;simpa [s] using this
structure Way (ops:Array Oper) (w0:World) (fr:Nat->Option eV) (vals:List Value) (n:Nat) (a0:Act) (listed:Array Bool) (g:Nat->Nat) (a:Act) (w:World):Prop where
 head:HeadInv .any ops n listed
 low:zB w0 w
 has:∀k f,k<n->listed.getD k false=true->fr k=some f->w0.heap.size<=g k/\w.heap[g k]?=some f.obj
 diff:∀k k',k<n->k'<n->listed.getD k false=true->listed.getD k' false=true->(fr k).isSome=true->(fr k').isSome=true->k≠k'->g k≠g k'
 frame:cH ops fr vals g n a0 (fun k=>listed.getD k false=true) a
theorem rI{B:Nat}{a w:World}(h:Below B a w)(b:B<=w.heap.size)(o:Obj):Below B a (w.alloc o):=h.alloc b o
theorem getD_set_iff{listed:Array Bool}{i k:Nat}(a:i<listed.size):(listed.setIfInBounds i true).getD k false=true↔(listed.getD k false=true∨k=i):=by
 by_cases h:i=k
 ·subst h;simp[a]
 ·rw[getD_set_ne false h];constructor
  ·exact .inl
  ·rintro(h1|h1)
   ·exact h1
   ·exact absurd h1.symm h
theorem wT{n:Nat}{a0:Act}{listed:Array Bool}{g:Nat->Nat}{a:Act}{w:World}(hB:iG ops needs n=true){l:List Oper}(hl:l=ops.toList.take n)(H:∀g (N:Nat->List Nat),(∀k,∀j∈needs k,j∈N k)->fO P ops w0 fr N vals g (fun _=>True) l 0 a0)(h:Way ops w0 fr vals n a0 listed g a w){i:Nat}(Y:i<n)(hr:i∈Region.ready .any ops listed){Q':Exit->Act->World->Prop}{K:Act->World->Prop}(hK:∀g' a' w',Way ops w0 fr vals n a0 (listed.setIfInBounds i true) g' a' w'->K a' w'):wpOp P ops Q' i K a w:=by
 simp only[iG,Bool.and_eq_true,decide_eq_true_eq] at hB;obtain⟨⟨⟨⟨⟨⟨a4,hn⟩,b2⟩,a7⟩,D⟩,S⟩,b9⟩:=hB;obtain⟨a8,o,O,a5⟩:=mem_ready.1 hr
 have b1:l[i]?=some o:=by
  rw[hl];simp[Y,O]
 have b:i<listed.size:=by rw[h.head.size];omega
 have C:¬listed.getD i false=true:=by
  rw[getD_both a8];simp
 obtain⟨a9,b3,b0⟩:=jV S Y O
 have a6:∀j,Region.waitsFor .any ops i j=true->listed.getD j false=true/\j<i:=by
  intro j y;obtain⟨o',b5,e,Z,hb,b7⟩:=Region.waitsFor_spec y;have:o'=o:=Option.some.inj (b5.symm.trans O);subst this;rw[<-b7];exact⟨a5 e Z hb,b0 e Z hb⟩
 have hA:∀g,cH ops fr vals g n a0 (fun k=>k<i) (actAt fr vals g (l.take i) 0 a0):=by
  intro g;have M:(l.take i).length=i:=by rw[hl];simp;omega
  have:=gh (vals:=vals) (fr:=fr) (g:=g) (a0:=a0) D (l.take i) 0 a0 (fun j y=>by
   rw[M] at y;rw[hl];simp[y,show j<n by omega]) (by omega) (cH.nil fun k _=>by omega)
  rw[M] at this;exact this.congr fun j _=>by omega
 have b4:=Region.noSelect_spec a4;have E:=h.frame.alike (hA g) (o:=o) (fun d hd k x t hx b6=>a6 k (a9 d hd k x t hx b6));have ex:=tp (b4 i o · · O) E;have wn:=oL E;have c:=(fN l 0 a0 (H g (fun k=>needs k++(List.range n).filter fun j=>listed.getD j false) (fun k j y=>List.mem_append_left _ y))).2 i o b1;rw[Nat.zero_add] at c;unfold wpOp;simp only[O];cases hf:fr i with
 | some f=>
  rw[hf] at c;obtain⟨hw,a3⟩:=c;rw[wn,if_pos hw];refine .inl ?_;unfold Oper.wp;rw[ex,a3 w];simp only[Oper.upon]
  have q:∀k,k<n->listed.getD k false=true->(if k=i then w.heap.size else g k)=g k:=fun k _ t=>by
   rw[if_neg];intro e;subst e;exact C t
  refine hK (fun k=>if k=i then w.heap.size else g k) _ _ ⟨h.head.set hr Y,rI h.low (by have:=h.low.size;omega) _,?_,?_,?_⟩
  ·intro k T t s z;rcases(getD_set_iff b).1 s with h1|h1
   ·have:=h.has k T t h1 z;simp only[q k t h1];exact⟨this.1,by rw[Below.heap_alloc w f.obj _ (ja this.2)];exact this.2⟩
   ·subst h1;simp only[if_true];rw[hf] at z;cases z;exact⟨h.low.size,heap_alloc_new w _⟩
  ·intro k X t B s G F A L;rcases(getD_set_iff b).1 s with h1|h1<;>rcases(getD_set_iff b).1 G with h2|h2
   ·simp only[q k t h1,q X B h2];exact h.diff k X t B h1 h2 F A L
   ·subst h2;simp only[q k t h1,if_true];obtain⟨T,U⟩:=Option.isSome_iff_exists.1 F;have:=ja (h.has k T t h1 U).2;omega
   ·subst h1;simp only[q X B h2,if_true];obtain⟨T,U⟩:=Option.isSome_iff_exists.1 A;have:=ja (h.has X T B h2 U).2;omega
   ·exact absurd (h1.trans h2.symm) L
  ·have V:=h.frame.turn (g':=fun k=>if k=i then w.heap.size else g k) (fun k t s=>q k t s);have:=V.put (L':=fun k=>(listed.setIfInBounds i true).getD k false=true) D Y O (fun k=>getD_set_iff b) C;have hv:eL fr vals (fun k=>if k=i then w.heap.size else g k) i=f.ptr w.heap.size:=by unfold eL;rw[hf];simp
   rwa [hv] at this
 | none=>
  rw[hf] at c;obtain⟨v,a2,hy⟩:=c
  have hC:∃p:Inw w0 fr g (needs i++(List.range n).filter fun j=>listed.getD j false),w=p.w:=⟨⟨w,h.low,fun j y f a1=>by
   rcases List.mem_append.1 y with y|y
   ·have:=a6 j (b3 j y);exact h.has j f (by omega) this.1 a1
   ·have:=List.mem_filter.1 y;exact h.has j f (List.mem_range.1 this.1) this.2 a1⟩,rfl⟩
  have J:∀p:Inw w0 fr g (needs i++(List.range n).filter fun j=>listed.getD j false),K (a.put o.dst v) p.w:=by
   intro p
   have Z:a.put o.dst v=a.put o.dst (eL fr vals g i):=by
    cases hod:o.dst with
    | none=>rfl
    | some d=>
     by_cases hd:d<a0.tmps.size
     ·have I:((actAt fr vals g (l.take i) 0 a0).put o.dst v).tmps[d]? = ((actAt fr vals g (l.take i) 0 a0).put o.dst (eL fr vals g i)).tmps[d]?:=by rw[a2]
      have F:d<(actAt fr vals g (l.take i) 0 a0).tmps.size:=by rw[(hA g).size];exact hd
      rw[hod] at I;simp only[Act.put] at I;rw[Array.getElem?_setIfInBounds_self_of_lt F,Array.getElem?_setIfInBounds_self_of_lt F] at I;rw[Option.some.inj I]
     ·have F:¬d<a.tmps.size:=by rw[h.frame.size];exact hd
      simp only[Act.put];congr 1
      apply Array.ext_getElem?;intro j;by_cases y:d=j
      ·subst y;simp[F]
      ·rw[Array.getElem?_setIfInBounds_ne y,Array.getElem?_setIfInBounds_ne y]
   rw[Z];refine hK g _ _ ⟨h.head.set hr Y,p.low,?_,?_,?_⟩
   ·intro k T t s z;rcases(getD_set_iff b).1 s with h1|h1
    ·exact p.has k (List.mem_append_right _ (List.mem_filter.2 ⟨List.mem_range.2 t,h1⟩)) T z
    ·subst h1;rw[hf] at z;cases z
   ·intro k X t B s G F A L;rcases(getD_set_iff b).1 s with h1|h1
    ·rcases(getD_set_iff b).1 G with h2|h2
     ·exact h.diff k X t B h1 h2 F A L
     ·subst h2;rw[hf] at A;cases A
    ·subst h1;rw[hf] at F;cases F
   ·exact h.frame.put (L':=fun k=>(listed.setIfInBounds i true).getD k false=true) D Y O (fun k=>getD_set_iff b) C
  rcases hy with ⟨hw,hq⟩|⟨hw,rfl⟩
  ·rw[wn,if_pos hw];refine .inl ?_;have W:=hq w hC;unfold Oper.quietAt at W;unfold Oper.wp;rw[ex];generalize (execOp (actAt fr vals g (l.take i) 0 a0).eval o).run P w=r at *;cases r with
   | ok m w'=>
    cases m<;>simp only[Oper.quietUpon] at W<;>simp only[Oper.upon]
    case value u=>
     obtain⟨I,e2⟩:=W;obtain⟨p,R⟩:=hC;rw[I,e2,R];exact J p
    case skip=>
     obtain⟨I,e2⟩:=W;obtain⟨p,R⟩:=hC;rw[I,<-e2,R];exact J p
    case enter f b8=>
     obtain⟨I,hc⟩:=W;rw[I];exact hc.mono fun e c0 ⟨Z,p,R⟩=>by subst Z;subst R;exact J p
   | halt x w'=>simp only[Oper.quietUpon] at W
  ·rw[wn,hw];simp only[Bool.false_eq_true,if_false];obtain⟨p,R⟩:=hC;have:=J p;rwa [<-R] at this
theorem wi{n:Nat}{listed:Array Bool}(c:HeadInv .any ops n listed)(_hn:n<ops.size)(d:∀k,k<n->listed.getD k false=true):listed=iH n ops.size:=by
 apply Array.ext_getElem?;intro k;have h:(iH n ops.size).size=ops.size:=by simp[iH]
 by_cases e:k<ops.size
 ·have f:(iH n ops.size)[k]?=some (decide (k<n)):=by simp[iH,e]
  rw[f];have a:k<listed.size:=by rw[c.size];exact e
  by_cases b:k<n
  ·have:=d k b;simp[a] at this;simp[a,this,b]
  ·have:=c.tail k (by omega) e;simp[a] at this;simp[a,this,b]
 ·rw[Array.getElem?_eq_none (by rw[c.size];omega),Array.getElem?_eq_none (by rw[h];omega)]
def left(n:Nat)(listed:Array Bool):Nat:=((List.range n).filter fun k=>!listed.getD k false).length
theorem yr{n i:Nat}{listed:Array Bool}(l:i<n)(c:i<listed.size)(b:listed.getD i false=false):left n listed=left n (listed.setIfInBounds i true)+1:=by
 unfold left;induction n with
 | zero=>omega
 | succ n d=>
  rw[List.range_succ,List.filter_append,List.filter_append,List.length_append,List.length_append];by_cases a:i=n
  ·subst a
   have e:(List.range i).filter (fun k=>!listed.getD k false)=(List.range i).filter (fun k=>!(listed.setIfInBounds i true).getD k false):=by
    apply List.filter_congr;intro k f;have:=List.mem_range.1 f;rw[getD_set_ne false (by omega)]
   rw[e];have j:(listed.setIfInBounds i true).getD i false=true:=(getD_set_iff c).2 (.inr rfl);simp only[List.filter_cons,List.filter_nil,b,j];rfl
  ·rw[d (by omega)];have h:(listed.setIfInBounds i true).getD n false=listed.getD n false:=getD_set_ne false a;simp only[List.filter_cons,List.filter_nil,h];omega
theorem Cl{n:Nat}{a0:Act}{l:List Oper}(hB:iG ops needs n=true)(U:l=ops.toList.take n)(H:∀g (N:Nat->List Nat),(∀k,∀j∈needs k,j∈N k)->fO P ops w0 fr N vals g (fun _=>True) l 0 a0){Q':Exit->Act->World->Prop}(V:∀g w,zB w0 w->(∀k f,k<n->fr k=some f->w0.heap.size<=g k/\w.heap[g k]?=some f.obj)->(∀k B,k<n->B<n->(fr k).isSome=true->(fr B).isSome=true->k≠B->g k≠g B)-> wpList P ops Q' (ops.toList.drop n) (actAt fr vals g l 0 a0) w):∀(m:Nat) (listed:Array Bool) (g:Nat->Nat) (a:Act) (w:World),left n listed=m->Way ops w0 fr vals n a0 listed g a w->wpAny P .any ops Q' (m+(ops.size-n)) listed a w:=by
 have S:=hB;simp only[iG,Bool.and_eq_true,decide_eq_true_eq] at hB;obtain⟨⟨⟨⟨⟨⟨a3,hn⟩,C⟩,q⟩,E⟩,A⟩,M⟩:=hB;intro m;induction m with
 | zero=>
  intro listed g a w hm h
  have b:∀k,k<n->listed.getD k false=true:=by
   intro k p;cases I:listed.getD k false with
   | true=>rfl
   | false=>
    have t:k∈(List.range n).filter fun k=>!listed.getD k false:=List.mem_filter.2 ⟨List.mem_range.2 p,by simp only[I];rfl⟩;have:((List.range n).filter fun k=>!listed.getD k false)=[]:=List.length_eq_zero_iff.1 hm;rw[this] at t;cases t
  have D:=wi h.head hn b;have u:l.length=n:=by rw[U];simp;omega
  have hA:cH ops fr vals g n a0 (fun k=>k<n) (actAt fr vals g l 0 a0):=by
   have:=gh (vals:=vals) (fr:=fr) (g:=g) (a0:=a0) E l 0 a0 (fun j hj=>by rw[u] at hj;rw[U];simp[hj]) (by omega) (cH.nil fun k _=>by omega);rw[u] at this;exact this.congr fun j _=>by omega
  have Z:a=actAt fr vals g l 0 a0:=(h.frame.congr (L':=fun k=>k<n) fun k p=>⟨fun _=>b k p,fun _=>p⟩).same hA;rw[D,Z];have:=V g w h.low (fun k f p hf=>h.has k f p (b k p) hf) (fun k B p K hs W z=>h.diff k B p K (b k p) (b B K) hs W z);have F:(ops.toList.drop n).length=ops.size-n:=by simp
  have hw:=wpAny_of_seq (md:=.any) (Q':=Q') (ops.toList.drop n) n (iH n ops.size) (actAt fr vals g l 0 a0) w (fun j=>by simp[List.getElem?_drop]) (by rw[F];exact M) this;rw[F] at hw;rwa [Nat.zero_add]
 | succ m ih=>
  intro listed g a w hm h
  obtain⟨Y,J,s⟩:∃i,i<n/\listed.getD i false=false:=by
   have z:((List.range n).filter fun k=>!listed.getD k false)≠[]:=by
    intro e;have:left n listed=0:=by unfold left;rw[e];rfl
    omega
   obtain⟨x,hx⟩:=List.exists_mem_of_ne_nil _ z;have:=List.mem_filter.1 hx;exact⟨x,List.mem_range.1 this.1,by simpa using this.2⟩
  have v:=getD_in (by rw[h.head.size];omega) s;have r:=tail_waits C q hn h.head _ Y rfl J v
  -- the least that is not listed may come up
  have O:∃i,i<n/\i∈Region.ready .any ops listed:=by
   have:∀d i,i=d->i<n->listed.getD i false=false->∃i,i<n/\i∈Region.ready .any ops listed:=by
    intro d;induction d using Nat.strongRecOn with
    | _ d a1=>
     intro i a4 c y;have R:i<ops.size:=by omega
     have ho:ops[i]?=some (ops[i]):=Array.getElem?_eq_getElem R;by_cases o:∀e∈(ops[i]).after,Region.binds .any e=true->listed.getD e.on false=true
     ·exact⟨i,c,mem_ready.2 ⟨getD_in (by rw[h.head.size];omega) y,_,ho,o⟩⟩
     · have I : ∃ e, e ∈ (ops[i]).after/\Region.binds .any e = true/\listed.getD e.on false = false := by
         apply Classical.byContradiction;intro T
         exact o fun e he X=>by
          cases I:listed.getD e.on false with
          | true=>rfl
          | false=>exact absurd ⟨e,he,X,I⟩ T
       obtain⟨e,he,X,a2⟩:=I;have a5:=(jV A c ho).2.2 e he X;exact a1 e.on (by omega) e.on rfl (by omega) a2
   exact this Y Y rfl J s
  obtain⟨i1,a6,G⟩:=O;rw[show m+1+(ops.size-n)=(m+(ops.size-n))+1 by omega];refine⟨fun h0=>(by rw[h0] at G;cases G),fun i hi=>?_⟩
  have c:i<n:=by
   rcases Nat.lt_or_ge i n with L|L
   ·exact L
   ·exact absurd hi (r i L)
  have y:=getD_both (mem_ready.1 hi).1;refine wT S U H h c hi fun g' a' w' L=>ih _ g' a' w' ?_ L;have:=yr c (by rw[h.head.size];omega) y;omega
theorem ik:∀(l:List Oper) (k:Nat) (a:Act),fO P ops w0 fr needs vals g Q l k a->fO P ops w0 fr needs vals g (fun _=>True) l k a
 | [],_,_,_=>trivial
 | o :: l,k,a,h=>by
  unfold fO at h ⊢
  cases hf:fr k with
  | some f=>rw[hf] at h;exact⟨h.1,h.2.1,ik l _ _ h.2.2⟩
  | none=>
   rw[hf] at h
   simp only[wpQuiet] at h ⊢
   by_cases b:Region.wanted o (yielded ops a.tmps)=true
   ·rw[if_pos b] at h ⊢
    obtain⟨v,e,c,d⟩:=h
    exact⟨v,e,c,ik l _ _ d⟩
   ·rw[if_neg b] at h ⊢
    exact⟨h.1,ik l _ _ h.2⟩
theorem kH{E:Nat}{Q':Exit->Act->World->Prop}{a:Act}{w:World}{l:List Oper}(n:Nat)(fr:Nat->Option eV)(needs:Nat->List Nat)(vals:List Value)(D:P.follows .mixedOrders=true)(o:iG l.toArray needs n=true)(H:∀g (N:Nat->List Nat),(∀k,∀j∈needs k,j∈N k)->fO P l.toArray w.drew fr N vals g (fun F=>∀d,zB w d->(∀k f,k<n->fr k=some f->w.heap.size<=g k/\d.heap[g k]?=some f.obj)-> (∀k c,k<n->c<n->(fr k).isSome=true->(fr c).isSome=true->k≠c->g k≠g c)->wpList P l.toArray Q' (l.drop n) F d) (l.take n) 0 a):(Code.region E l.toArray true).wp P Q' a w:=by
 have q:=o;simp only[iG,Bool.and_eq_true,decide_eq_true_eq] at o;obtain⟨⟨⟨⟨⟨⟨r,z⟩,m⟩,i⟩,s⟩,p⟩,u⟩:=o;refine wp_region_any D ?_;have y:n<l.length:=by simpa using z
 have:=Cl (P:=P) (ops:=l.toArray) (w0:=w.drew) (fr:=fr) (vals:=vals) (a0:=a) (l:=l.take n) (Q':=Q') q rfl (fun g N B=>ik _ _ _ (H g N B)) (fun g d e x A=>by
  have:=(fN _ 0 _ (H g needs (fun _ _ h=>h))).1 d ⟨e.os,e.tape,e.output,e.size,e.block⟩ x A
  exact this) n (Array.replicate l.toArray.size false) (fun _=>0) a w.drew ?_ ⟨⟨by simp,fun j G _ v=>(by rw[getD_replicate_false] at v;cases v),fun t _ C=>getD_in (by simpa using C) (getD_replicate_false _ _)⟩,
   Below.refl _ _,fun k f _ b=>(by rw[getD_replicate_false] at b;cases b),fun k c _ _ b=>(by rw[getD_replicate_false] at b;cases b),cH.nil fun k _ b=>(by rw[getD_replicate_false] at b;cases b)⟩
 ·rw[show n+(l.toArray.size-n)=l.toArray.size by simp;omega] at this;exact this
 ·unfold left;rw[List.filter_eq_self.2 (fun k _=>by rw[getD_replicate_false];rfl)];simp
end
theorem Gk{p:List Value->Prop}(h:∃v,∃l,p (v :: l)):∃l,p l:=by
 obtain⟨v,l,h⟩:=h;exact⟨v :: l,h⟩
theorem aB{P:Program}{m:Nat}{d:Exit->Act->World->Prop}{a:Act}{w:World}{l:List Oper}(n:Nat)(fr:Nat->Option eV)(needs:Nat->List Nat)(e:P.follows .mixedOrders=true)(i:iG l.toArray needs n=true)(H:∃vals:List Value,∀g (N:Nat->List Nat),(∀k,∀j∈needs k,j∈N k)->fO P l.toArray w.drew fr N vals g (fun h=>∀c,zB w c->(∀k f,k<n->fr k=some f->w.heap.size<=g k/\c.heap[g k]?=some f.obj)-> (∀k b,k<n->b<n->(fr k).isSome=true->(fr b).isSome=true->k≠b->g k≠g b)->wpList P l.toArray d (l.drop n) h c) (l.take n) 0 a):(Code.region m l.toArray true).wp P d a w:=by
 obtain⟨vals,H⟩:=H;exact kH n fr needs vals e i H
theorem ci{w:World}{a:Addr}{v:Value}(h:w.cell? a=some v){fr:Nat->Option eV}{g:Nat->Nat}{N:List Nat}(p:Inw w.drew fr g N):p.w.cell? a=some v:=by
 have b:zB w p.w:=⟨p.low.os,p.low.tape,p.low.output,p.low.size,p.low.block⟩;rw[b.cell (block_lt_of_cell h)];exact h
end Go.Proofs.YtechbdnhalmobaaGreatDoor
