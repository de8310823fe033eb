/- Walks. -/
import Derived.Test.YtechbdnhalmobaaGreatDoorA46
import Derived.Laws.BitsAllLaws
namespace Go.Proofs.YtechbdnhalmobaaGreatDoor
set_option linter.unusedSimpArgs false
set_option linter.unusedVariables false
set_option maxRecDepth 100000
set_option maxHeartbeats 16000000
open Go.Proofs.Tryz
open Go.RowKit
open Go.RowKit Go.Maps
theorem L1(n l m:Int)(k:Bool)(d:ks n l m=k)(w:World):Calls prog 191 #[n,l,m] w fun e c=>e=.returned (.bool k)/\c=w:=by
 subst d;have E:ks n l m=(decide (l<=n)&&decide (n<=m)):=rfl;by_cases b:l<=n
 ·have a:Hid (ks n l m=decide (n<=m)):=by show _=_;rw[E];simp[b]
  clear E;go_enter func191,ntmps191;go_wp2
  go_ret;exact⟨by rw[a.out]<;>rfl,rfl⟩
 ·have a:Hid (ks n l m=false):=by show _=_;rw[E];simp[b]
  clear E;go_enter func191,ntmps191;go_wp2
  go_ret;exact⟨by rw[a.out]<;>rfl,rfl⟩
theorem Iw(d a:Int)(j:0<=d/\d<=70368744177664)(i:0<=a/\a<=1000):du (max 0 (d-1)) 1000000 (1000000+a)=((max 0 (d-1)*1000000).fdiv (1000000+a),0)/\cn (d+1) 1000000 (1000000-a)=(cdiv ((d+1)*1000000) (1000000-a),0)/\
  (0<=(max 0 (d-1)*1000000).fdiv (1000000+a)/\(max 0 (d-1)*1000000).fdiv (1000000+a)<=70368744177664)/\(0<=cdiv ((d+1)*1000000) (1000000-a)/\cdiv ((d+1)*1000000) (1000000-a)<=70500000000000)/\
  spanF d a=(((max 0 (d-1)*1000000).fdiv (1000000+a),cdiv ((d+1)*1000000) (1000000-a)),0):=by
 have g:0<=(max 0 (d-1)*1000000).fdiv (1000000+a)/\(max 0 (d-1)*1000000).fdiv (1000000+a)<=70368744177664:=by
  rw[A5 _ _ (by omega)];refine⟨Int.ediv_nonneg (by omega) (by omega),Int.ediv_le_of_le_mul (by omega) ?_⟩;have:(70368744177664:Int)*1000000<=70368744177664*(1000000+a):=Int.mul_le_mul_of_nonneg_left (by omega) (by decide);omega
 have e:0<=cdiv ((d+1)*1000000) (1000000-a)/\cdiv ((d+1)*1000000) (1000000-a)<=70500000000000:=by
  have c:=dH ((d+1)*1000000) (1000000-a) (by omega);obtain⟨z,f⟩:∃z,cdiv ((d+1)*1000000) (1000000-a)=z:=⟨_,rfl⟩;rw[f] at c ⊢
  have b:0<=z:=by
   by_cases h:0<=z
   ·exact h
   ·exfalso;have:(1000000-a)*z<=0:=Int.mul_nonpos_of_nonneg_of_nonpos (by omega) (by omega);omega
  refine⟨b,?_⟩;by_cases h:z<=70500000000000
  ·exact h
  ·exfalso;have:999000*z<=(1000000-a)*z:=Int.mul_le_mul_of_nonneg_right (by omega) b;omega
 refine⟨?_,?_,g,e,?_⟩
 ·rw[nX _ _ _ (Sm.of64 (by omega) (by omega)) (Sm.of64 (by decide) (by decide)) (Sm.of64 (by omega) (by omega)),if_neg (by omega)];unfold dS;rw[if_pos (by omega)]
 ·rw[kz _ _ _ (Sm.of64 (by omega) (by omega)) (Sm.of64 (by decide) (by decide)) (Sm.of64 (by omega) (by omega)),if_neg (by omega)];show dS (cdiv ((d+1)*1000000) (1000000-a))=_;unfold dS;rw[if_pos (by omega)]
 ·unfold spanF;rw[if_pos (by simp[ks];omega)]
theorem JL(d a:Int)(s:0<=a/\a<=1000)(g f k:Int)(h:spanF d a=((g,f),k))(w:World):zR 343 #[d,a] w (.tuple #[g,f,k]):=by
 have y:Hid (ks a 0 1000=true):=by show _=_;simp[ks,s]
 cases hi2:ks d 0 70368744177664 with
 | false=>
  have b:=Lh hi2;unfold spanF at h;rw[hi2] at h;simp only[Bool.false_and,Bool.false_eq_true,if_false] at h;injection h with h1 h2
  injection h1 with h1 h3
  subst h1;subst h2;subst h3;clear hi2;go_enter func343,ntmps343
  go_wp2_with (first
   | (go_at_call 191;with_reducible refine Calls.mono (L1 _ _ _ _ b.out _) ?_;rintro e q ⟨rfl,h⟩;have i:=h.symm;subst i))
  go_ret3
  exact⟨rfl,ad⟩
 | true=>
  have b:=Lh hi2;have v:0<=d/\d<=70368744177664:=by simpa [ks] using hi2
  obtain⟨o,m,r,t,p⟩:=Iw d a v s;rw[p] at h;injection h with h1 h2
  injection h1 with h1 h3
  rw[h1] at o r;rw[h3] at m t;subst h2;have l:Hid (∀w,zR 83 #[.int .i64 (max 0 (d-1)),.int .i64 1000000,.int .i64 (1000000+a)] w (.tuple #[g,.int .i64 0])):=fun w=>(yd _ _ _ (by omega) (by decide) (by omega) w).mono (by rintro e z ⟨rfl,n⟩;rw[o];exact⟨rfl,n⟩);have c:Hid (∀w,zR 82 #[.int .i64 (d+1),.int .i64 1000000,.int .i64 (1000000-a)] w (.tuple #[f,.int .i64 0])):=fun w=>(sE _ _ _ (by omega) (by decide) (by omega) w).mono (by rintro e z ⟨rfl,n⟩;rw[m];exact⟨rfl,n⟩);have q:IntKind.i64.wrap (d-1)=d-1:=IntWalk.i64_in _ (by omega);have A:IntKind.i64.wrap (d+1)=d+1:=IntWalk.i64_in _ (by omega);have x:IntKind.i64.wrap (1000000+a)=1000000+a:=IntWalk.i64_in _ (by omega);have B:IntKind.i64.wrap (1000000-a)=1000000-a:=IntWalk.i64_in _ (by omega);clear o m r t p h1 h3 hi2;go_enter func343,ntmps343
  go_wp2_with (first
   | (go_at_call 191;(first|with_reducible refine Calls.mono (L1 _ _ _ _ b.out _) ?_|with_reducible refine Calls.mono (L1 _ _ _ _ y.out _) ?_);rintro e q ⟨rfl,h⟩;have i:=h.symm;subst i)
   | (go_at_call 83;with_reducible refine Calls.mono (l.out _) ?_;rintro e A ⟨rfl,j⟩)
   | (go_at_call 82;with_reducible refine Calls.mono (c.out _) ?_;rintro e x ⟨rfl,u⟩))
  go_ret3
  have C:=j.size;exact⟨rfl,ad⟩
theorem RQ(a b c d:Int)(w:World):Sem.run prog (Instr.index 254 (.agg #[a,b,c,d]) (.int .i64 0)) w=.ok (.int .i64 a) w/\Sem.run prog (Instr.index 254 (.agg #[a,b,c,d]) (.int .i64 1)) w=.ok (.int .i64 b) w/\
  Sem.run prog (Instr.index 254 (.agg #[a,b,c,d]) (.int .i64 2)) w=.ok (.int .i64 c) w/\Sem.run prog (Instr.index 254 (.agg #[a,b,c,d]) (.int .i64 3)) w=.ok (.int .i64 d) w:=⟨rfl,rfl,rfl,rfl⟩
theorem Kq(a b c d:Int)(g:0<=a/\a<=70500000000000)(f:0<=b/\b<=70500000000000)(e:0<=c/\c<=70500000000000)(h:0<=d/\d<=70500000000000)(w:World):zR 344 #[.agg #[a,b],.agg #[c,d]] w (.agg #[.int .i64 (a-d),.int .i64 (b-c)]):=by
 have i:IntKind.i64.wrap (a-d)=a-d:=IntWalk.i64_in _ (by omega);have j:IntKind.i64.wrap (b-c)=b-c:=IntWalk.i64_in _ (by omega);clear g f e h;go_enter func344,ntmps344;go_wp2_with fail;exact ak 2 #[.int .i64 (a-d),.int .i64 (b-c)] rfl rfl rfl underlying422 rfl (by kernel_rfl) rc2 ⟨rfl,ad⟩
theorem Ih{d c:Int}{a b:Int}(h:spanF d c=((a,b),0)):(0<=a/\a<=70500000000000)/\(0<=b/\b<=70500000000000):=by
 have e:ks d 0 70368744177664=true/\ks c 0 1000=true:=by
  unfold spanF at h;split at h
  ·rename_i e;simpa using e
  ·injection h with _ f;cases f
 have j:0<=d/\d<=70368744177664:=by simpa [ks] using e.1
 have f:0<=c/\c<=1000:=by simpa [ks] using e.2
 obtain⟨-,-,g,i,k⟩:=Iw d c j f;rw[k] at h;injection h with h3 _
 injection h3 with h3 h4
 rw[h3] at g;rw[h4] at i;omega
def spC(p:Nat->Int×Int)(k:Nat):Array Value:=
 let q:=fun i:Nat=>if i<k then p i else (0,0)
 #[.int .i64 (q 0).1,.int .i64 (q 0).2,.int .i64 (q 1).1,.int .i64 (q 1).2,.int .i64 (q 2).1,.int .i64 (q 2).2,.int .i64 (q 3).1,.int .i64 (q 3).2]
theorem Lq(N db R O c b:Int)(hr:0<=c/\c<=1000)(hs:0<=b/\b<=4194304)(lo hi k:Int)(h:twrRange ⟨N,db,R,O⟩ c b=((lo,hi),k))(w:World):zR 337 #[.agg #[N,db,R,O],c,b] w (.tuple #[lo,hi,k]):=by
 obtain⟨⟨⟨x,s⟩,I⟩,h1⟩:∃r,spanF N c=r:=⟨_,rfl⟩;obtain⟨⟨⟨A,v⟩,L⟩,h2⟩:∃r,spanF db c=r:=⟨_,rfl⟩;obtain⟨⟨⟨J,D⟩,P⟩,h3⟩:∃r,spanF O c=r:=⟨_,rfl⟩;obtain⟨⟨⟨E,M⟩,U⟩,h4⟩:∃r,spanF R c=r:=⟨_,rfl⟩;have a5:Hid (∀w,zR 343 #[N,c] w (.tuple #[x,s,I])):=fun w=>JL _ _ hr _ _ _ h1 w;have b5:Hid (∀w,zR 343 #[db,c] w (.tuple #[A,v,L])):=fun w=>JL _ _ hr _ _ _ h2 w;have a9:Hid (∀w,zR 343 #[O,c] w (.tuple #[J,D,P])):=fun w=>JL _ _ hr _ _ _ h3 w;have V:Hid (∀w,zR 343 #[R,c] w (.tuple #[E,M,U])):=fun w=>JL _ _ hr _ _ _ h4 w
 have Q : twrRange ⟨N, db, R, O⟩ c b = if I ≠ 0 ∨ L ≠ 0 ∨ P ≠ 0 ∨ U ≠ 0 then ((0, 0), 1) else
     (if cdiv (min (s-A) (D-E)) 2+1+b<max 0 ((max (x-v) (J-M)).fdiv 2-b) then ((0,0),3) else if 4194304<cdiv (min (s-A) (D-E)) 2+1+b then ((0,0),2) else ((max 0 ((max (x-v) (J-M)).fdiv 2-b),cdiv (min (s-A) (D-E)) 2+1+b),0)):=by
  unfold twrRange;rw[if_neg (by omega)];simp only[h1,h2,h3,h4]
 rw[h] at Q
 have HK:Hid ((I=0->(0<=x/\x<=70500000000000)/\(0<=s/\s<=70500000000000))/\(L=0->(0<=A/\A<=70500000000000)/\(0<=v/\v<=70500000000000))/\(P=0->(0<=J/\J<=70500000000000)/\(0<=D/\D<=70500000000000))/\(U=0->(0<=E/\E<=70500000000000)/\(0<=M/\M<=70500000000000))):=
  ⟨fun e=>Ih (by rw[h1,e]),fun e=>Ih (by rw[h2,e]),fun e=>Ih (by rw[h3,e]),fun e=>Ih (by rw[h4,e])⟩
 have Q:=Lh Q;obtain⟨i0,i1,i2,i3⟩:=And.intro (fun w=>(RQ N db O R w).1) (And.intro (fun w=>(RQ N db O R w).2.1) (And.intro (fun w=>(RQ N db O R w).2.2.1) (fun w=>(RQ N db O R w).2.2.2)));obtain⟨e1,d8⟩:=hr;obtain⟨d5,d4⟩:=hs;clear h h1 h2 h3 h4;go_enter func337,ntmps337;go_wp2_with fail;go_loopw [10,11,12,13,14,46] (fun d7 e0 e2 d9 d6 i wr=>∃k:Nat,k<=4/\i=.int .i64 k/\Hid (zB w wr)/\Hid (Blk wr (w.heap.size+1) (spC (fun i=>match i with|0=>(x,s)|1=>(A,v)|2=>(J,D)|_=>(E,M)) k) 423)/\Hid ((1<=k->I=0)/\(2<=k->L=0)/\(3<=k->P=0)/\(4<=k->U=0))) (fun _ _ _ _ _ i _=>4-(intOf i).toNat)
 case atStart=>exact⟨0,by omega,rfl,(show Below _ _ _ from ad),(show Blk _ _ _ _ from(Blk.new' _ _ _ (by simp)).of_eq rfl),⟨fun h=>absurd h (by omega),fun h=>absurd h (by omega),fun h=>absurd h (by omega),fun h=>absurd h (by omega)⟩⟩
 case round=>
  obtain⟨k,m,rfl,HB,HM,G⟩:=hrel;have d2:k=0∨k=1∨k=2∨k=3∨k=4:=by omega
  have hz:=HB.out.size;rcases d2 with rfl|rfl|rfl|rfl|rfl
  ·skip
   have f:Hid (Blk wr (w.heap.size+1) #[.int .i64 0,.int .i64 0,.int .i64 0,.int .i64 0,.int .i64 0,.int .i64 0,.int .i64 0,.int .i64 0] 423):=HM.out.of_eq rfl;by_cases m:I=0
   ·have u:(I != 0)=false:=by simp[m]
    go_wp2_with (first|(go_at_call 343;with_reducible refine Calls.mono (a5.out _) ?_;rintro e S ⟨rfl,j⟩;have zz:=j.size;have l:=Lh (f.out.keep j);obtain⟨y2,c2,f2,-⟩:=cz l.out))
    go_roundw
    case measure=>exact(by first|(simp[intOf];done)|(simp[intOf];omega))
    case rel=>exact⟨1,by omega,by go_num,(show Below _ _ _ from ad),(by show Blk _ _ _ _;exact((l.out.ab 0 _).ab 1 _).of_eq rfl),⟨fun _=>m,fun h=>absurd h (by omega),fun h=>absurd h (by omega),fun h=>absurd h (by omega)⟩⟩
   ·have u:(I != 0)=true:=by simp[m]
    have d:=Q.out;rw[if_pos (by exact .inl m)] at d;injection d with o K
    injection o with o q3
    go_wp2_with (first|(go_at_call 343;with_reducible refine Calls.mono (a5.out _) ?_;rintro e S ⟨rfl,j⟩))
    go_ret3
    subst o;subst q3;subst K;exact⟨rfl,ad⟩
  ·have n:I=0:=G.out.1 (by omega);have f:Hid (Blk wr (w.heap.size+1) #[x,s,.int .i64 0,.int .i64 0,.int .i64 0,.int .i64 0,.int .i64 0,.int .i64 0] 423):=HM.out.of_eq rfl;by_cases m:L=0
   ·have u:(L != 0)=false:=by simp[m]
    go_wp2_with (first|(go_at_call 343;with_reducible refine Calls.mono (b5.out _) ?_;rintro e S ⟨rfl,j⟩;have zz:=j.size;have l:=Lh (f.out.keep j);obtain⟨y2,c2,f2,-⟩:=cz l.out))
    go_roundw
    case measure=>exact(by first|(simp[intOf];done)|(simp[intOf];omega))
    case rel=>exact⟨2,by omega,by go_num,(show Below _ _ _ from ad),(by show Blk _ _ _ _;exact((l.out.ab 2 _).ab 3 _).of_eq rfl),⟨fun _=>n,fun _=>m,fun h=>absurd h (by omega),fun h=>absurd h (by omega)⟩⟩
   ·have u:(L != 0)=true:=by simp[m]
    have d:=Q.out;rw[if_pos (by exact .inr (.inl m))] at d;injection d with o K
    injection o with o q3
    go_wp2_with (first|(go_at_call 343;with_reducible refine Calls.mono (b5.out _) ?_;rintro e S ⟨rfl,j⟩))
    go_ret3
    subst o;subst q3;subst K;exact⟨rfl,ad⟩
  ·have n:I=0:=G.out.1 (by omega);have t:L=0:=G.out.2.1 (by omega);have f:Hid (Blk wr (w.heap.size+1) #[x,s,A,v,.int .i64 0,.int .i64 0,.int .i64 0,.int .i64 0] 423):=HM.out.of_eq rfl;by_cases m:P=0
   ·have u:(P != 0)=false:=by simp[m]
    go_wp2_with (first|(go_at_call 343;with_reducible refine Calls.mono (a9.out _) ?_;rintro e S ⟨rfl,j⟩;have zz:=j.size;have l:=Lh (f.out.keep j);obtain⟨y2,c2,f2,-⟩:=cz l.out))
    go_roundw
    case measure=>exact(by first|(simp[intOf];done)|(simp[intOf];omega))
    case rel=>exact⟨3,by omega,by go_num,(show Below _ _ _ from ad),(by show Blk _ _ _ _;exact((l.out.ab 4 _).ab 5 _).of_eq rfl),⟨fun _=>n,fun _=>t,fun _=>m,fun h=>absurd h (by omega)⟩⟩
   ·have u:(P != 0)=true:=by simp[m]
    have d:=Q.out;rw[if_pos (by exact .inr (.inr (.inl m)))] at d;injection d with o K
    injection o with o q3
    go_wp2_with (first|(go_at_call 343;with_reducible refine Calls.mono (a9.out _) ?_;rintro e S ⟨rfl,j⟩))
    go_ret3
    subst o;subst q3;subst K;exact⟨rfl,ad⟩
  ·have n:I=0:=G.out.1 (by omega);have t:L=0:=G.out.2.1 (by omega);have H:P=0:=G.out.2.2.1 (by omega);have f:Hid (Blk wr (w.heap.size+1) #[x,s,A,v,J,D,.int .i64 0,.int .i64 0] 423):=HM.out.of_eq rfl;by_cases m:U=0
   ·have u:(U != 0)=false:=by simp[m]
    go_wp2_with (first|(go_at_call 343;with_reducible refine Calls.mono (V.out _) ?_;rintro e S ⟨rfl,j⟩;have zz:=j.size;have l:=Lh (f.out.keep j);obtain⟨y2,c2,f2,-⟩:=cz l.out))
    go_roundw
    case measure=>exact(by first|(simp[intOf];done)|(simp[intOf];omega))
    case rel=>exact⟨4,by omega,by go_num,(show Below _ _ _ from ad),(by show Blk _ _ _ _;exact((l.out.ab 6 _).ab 7 _).of_eq rfl),⟨fun _=>n,fun _=>t,fun _=>H,fun _=>m⟩⟩
   ·have u:(U != 0)=true:=by simp[m]
    have d:=Q.out;rw[if_pos (by exact .inr (.inr (.inr m)))] at d;injection d with o K
    injection o with o q3
    go_wp2_with (first|(go_at_call 343;with_reducible refine Calls.mono (V.out _) ?_;rintro e S ⟨rfl,j⟩))
    go_ret3
    subst o;subst q3;subst K;exact⟨rfl,ad⟩
  ·have n:I=0:=G.out.1 (by omega);have t:L=0:=G.out.2.1 (by omega);have H:P=0:=G.out.2.2.1 (by omega);have a8:U=0:=G.out.2.2.2 (by omega);obtain⟨p1,p2⟩:=HK.out.1 n;obtain⟨p3,p4⟩:=HK.out.2.1 t;obtain⟨p5,p6⟩:=HK.out.2.2.1 H;obtain⟨p7,p8⟩:=HK.out.2.2.2 a8;have Y:Hid (∀w,zR 344 #[.agg #[x,s],.agg #[A,v]] w (.agg #[.int .i64 (x-v),.int .i64 (s-A)])):=fun w=>Kq _ _ _ _ p1 p2 p3 p4 w;have a6:Hid (∀w,zR 344 #[.agg #[J,D],.agg #[E,M]] w (.agg #[.int .i64 (J-M),.int .i64 (D-E)])):=fun w=>Kq _ _ _ _ p5 p6 p7 p8 w;have f:Hid (Blk wr (w.heap.size+1) #[x,s,A,v,J,D,E,M] 423):=HM.out.of_eq rfl;have d:=Q.out;rw[if_neg (by rintro(h|h|h|h);exact h n;exact h t;exact h H;exact h a8)] at d;obtain⟨y,W⟩:∃z,x-v=z:=⟨_,rfl⟩;obtain⟨D2,a7⟩:∃z,s-A=z:=⟨_,rfl⟩;obtain⟨D3,X⟩:∃z,J-M=z:=⟨_,rfl⟩;obtain⟨D4,Z⟩:∃z,D-E=z:=⟨_,rfl⟩;rw[W,a7,X,Z] at d;rw[W,a7] at Y;rw[X,Z] at a6;have d3 : -70500000000000<=max y D3/\max y D3<=70500000000000:=by omega
   have c7 : -70500000000000<=min D2 D4/\min D2 D4<=70500000000000:=by omega
   have m1:du (max y D3) 1 2=((max y D3).fdiv 2,0):=by
    rw[nX _ _ _ (Sm.of64 (by omega) (by omega)) (Sm.of64 (by decide) (by decide)) (Sm.of64 (by decide) (by decide)),if_neg (by decide),Int.mul_one];unfold dS;rw[if_pos (by rw[A5 _ _ (by decide)];omega)]
   have m2:cn (min D2 D4) 1 2=(cdiv (min D2 D4) 2,0):=by
    rw[kz _ _ _ (Sm.of64 (by omega) (by omega)) (Sm.of64 (by decide) (by decide)) (Sm.of64 (by decide) (by decide)),if_neg (by decide),Int.mul_one];show dS (cdiv (min D2 D4) 2)=_;have:=dH (min D2 D4) 2 (by decide);unfold dS;rw[if_pos (by omega)]
   have bF : -70500000000000<=(max y D3).fdiv 2/\(max y D3).fdiv 2<=70500000000000:=by rw[A5 _ _ (by decide)];omega
   have bC : -70500000000000<=cdiv (min D2 D4) 2/\cdiv (min D2 D4) 2<=70500000000000:=by have:=dH (min D2 D4) 2 (by decide);omega
   have b7:Hid (∀w,zR 83 #[.int .i64 (max y D3),.int .i64 1,.int .i64 2] w (.tuple #[.int .i64 ((max y D3).fdiv 2),.int .i64 0])):=fun w=>(yd _ _ _ (by omega) (by decide) (by decide) w).mono (by rintro e w' ⟨rfl,hb⟩;rw[m1];exact⟨rfl,hb⟩);have b0:Hid (∀w,zR 82 #[.int .i64 (min D2 D4),.int .i64 1,.int .i64 2] w (.tuple #[.int .i64 (cdiv (min D2 D4) 2),.int .i64 0])):=fun w=>(sE _ _ _ (by omega) (by decide) (by decide) w).mono (by rintro e w' ⟨rfl,hb⟩;rw[m2];exact⟨rfl,hb⟩);obtain⟨F,hF⟩:∃z,(max y D3).fdiv 2=z:=⟨_,rfl⟩;obtain⟨C,b9⟩:∃z,cdiv (min D2 D4) 2=z:=⟨_,rfl⟩;rw[hF] at d b7 bF;rw[b9] at d b0 bC;have S:IntKind.i64.wrap (F-b)=F-b:=IntWalk.i64_in _ (by omega);have w2:IntKind.i64.wrap (C+1)=C+1:=IntWalk.i64_in _ (by omega);have w3:IntKind.i64.wrap (C+1+b)=C+1+b:=IntWalk.i64_in _ (by omega);have c8:=Lh d;clear p1 p2 p3 p4 p5 p6 p7 p8 n t H a8 W a7 X Z d3 c7 m1 m2 bF bC hF b9 HK G Q d HM a5 b5 a9 V i0 i1 i2 i3;go_wp2_with fail;have u0:=@ci _ _ _ (f.out.cell (i:=0) rfl);have u1:=@ci _ _ _ (f.out.cell (i:=1) rfl);have u2:=@ci _ _ _ (f.out.cell (i:=2) rfl);have u3:=@ci _ _ _ (f.out.cell (i:=3) rfl);have u4:=@ci _ _ _ (f.out.cell (i:=4) rfl);have u5:=@ci _ _ _ (f.out.cell (i:=5) rfl);have u6:=@ci _ _ _ (f.out.cell (i:=6) rfl);have u7:=@ci _ _ _ (f.out.cell (i:=7) rfl);refine aB 12 (fun k=>match k with|10=>some ⟨.cells #[.int .i64 0,.int .i64 0] 422,fun g=>.pointer (some ⟨g,0,none⟩)⟩|11=>some ⟨.cells #[.int .i64 0,.int .i64 0] 422,fun g=>.pointer (some ⟨g,0,none⟩)⟩|_=>none) (fun _=>[]) (by kernel_rfl) (by kernel_rfl) ?_;apply Eb;apply Eb;apply Eb;apply Eb;apply Eb;apply Eb;apply Eb;apply Eb;apply Eb;apply Eb;apply Ef;apply Ef;refine⟨[],fun B NN hN=>?_⟩;simp only[List.take_succ_cons,List.take_zero,List.drop_succ_cons,List.drop_zero];(repeat (first|(refine bi rfl ?_;go_big_quiet_step (first|exact rfl|(go_at_call 344;first|with_reducible exact aF (Y.out _)|with_reducible exact aF (a6.out _)));refine wpQuiet_nil ⟨rfl,?_⟩)|(refine bK _ (by rfl) (by rfl) ?hex ?_;(case hex=>(intro wx;first|(go_simp;done)|(go_simp;rfl)));simp only[Act.put,List.setIfInBounds_toArray,List.set_cons_succ,List.set_cons_zero])));refine bF ?_;intro w4 T hh hd;have c1:zB wr w4:=T;obtain⟨l8,e8⟩:=hh 10 _ (by decide) rfl;obtain⟨l9,e9⟩:=hh 11 _ (by decide) rfl;have ne:B 10≠B 11:=hd 10 11 (by decide) (by decide) rfl rfl (by decide);have G8:Hid (Blk w4 (B 10) #[.int .i64 0,.int .i64 0] 422):=e8;have G9:Hid (Blk w4 (B 11) #[.int .i64 0,.int .i64 0] 422):=e9;clear hh hd T e8 e9 u0 u1 u2 u3 u4 u5 u6 u7;obtain⟨y3,c3,f3,-⟩:=cz G8.out;obtain⟨y4,c4,f4,-⟩:=cz G9.out;have b8:=ne.symm;have Y8:=Lh (((((G8.out.ab 0 (.int .i64 y)).ab 1 (.int .i64 D2)).ac (a:=⟨B 11,0,none⟩) ne (.int .i64 D3)).ac (a:=⟨B 11,1,none⟩) ne (.int .i64 D4)).of_eq (c':=#[.int .i64 y,.int .i64 D2]) rfl);have Y9:=Lh (((((G9.out.ac (a:=⟨B 10,0,none⟩) b8 (.int .i64 y)).ac (a:=⟨B 10,1,none⟩) b8 (.int .i64 D2)).ab 0 (.int .i64 D3)).ab 1 (.int .i64 D4)).of_eq (c':=#[.int .i64 D3,.int .i64 D4]) rfl);clear G8 G9 Y a6;go_wp2_with (first|(go_at_call 83;with_reducible refine Calls.mono (b7.out _) ?_;rintro e w5 ⟨rfl,a0⟩;clear c3 f3 c4 f4;have Z8:=Lh (Y8.out.keep a0);have Z9:=Lh (Y9.out.keep a0);obtain⟨y5,c5,f5,-⟩:=cz Z8.out;obtain⟨y6,c6,f6,-⟩:=cz Z9.out))
   go_at_call 82
   with_reducible refine Calls.mono (b0.out _) ?_
   rintro e w6 ⟨rfl,d1⟩;clear c5 f5 c6 f6 b0;obtain⟨c9,d0⟩:∃z,max 0 (F-b)=z:=⟨_,rfl⟩;obtain⟨b6,c0⟩:∃z,C+1+b=z:=⟨_,rfl⟩;have s:=(((c1.setCell (p:=⟨B 10,0,none⟩) l8 (.int .i64 y)).setCell (p:=⟨B 10,1,none⟩) l8 (.int .i64 D2)).setCell (p:=⟨B 11,0,none⟩) l9 (.int .i64 D3)).setCell (p:=⟨B 11,1,none⟩) l9 (.int .i64 D4);have v:=Below.trans s (a0.mono s.size);have BE:zB w w6:=Below.trans HB.out ((Below.trans v (d1.mono v.size)).mono hz);have q:=c8.out;rw[d0,c0] at q;rw[c0] at w3;have BE:=Lh BE;clear Z8 Z9 Y8 Y9 f;by_cases o:b6<c9
   ·rw[if_pos o] at q;injection q with x1 x2;injection x1 with x1 x3
    go_wp2_with fail;go_ret3
    subst x1;subst x2;subst x3;exact⟨rfl,BE.out⟩
   ·rw[if_neg o] at q;by_cases K:4194304<b6
    ·rw[if_pos K] at q;injection q with x1 x2;injection x1 with x1 x3
     go_wp2_with fail;go_ret3
     subst x1;subst x2;subst x3;exact⟨rfl,BE.out⟩
    ·rw[if_neg K] at q;injection q with x1 x2;injection x1 with x1 x3
     go_wp2_with fail;go_ret3
     subst x1;subst x2;subst x3;exact⟨rfl,BE.out⟩
theorem Re(a:Nat)(d:Int)(h:0<=d):Op.shift .shl .u64 (a:Int) .i64 d=pure (.int .u64 (((a<<<d.toNat)%18446744073709551616:Nat):Int)):=by
 have e:IntKind.u64.wrap ((a:Int)*2^(min d.toNat 64))=(((a<<<d.toNat)%18446744073709551616:Nat):Int):=by
  rw[IntKind.wrap_u64,Nat.shiftLeft_eq];have b:((a:Int)*2^(min d.toNat 64))=((a*2^(min d.toNat 64):Nat):Int):=by rw[Int.natCast_mul,Int.natCast_pow];rfl
  rw[b];by_cases c:d.toNat<=64
  ·rw[Nat.min_eq_left c];omega
  ·rw[Nat.min_eq_right (by omega)];obtain⟨j,f⟩:∃j,d.toNat=64+j:=⟨d.toNat-64,by omega⟩;rw[f,Nat.pow_add];have g:a*(2^64*2^j)=18446744073709551616*(a*2^j):=by rw[<-Nat.mul_assoc,Nat.mul_comm a,Nat.mul_assoc]
   rw[g,Nat.mul_mod_right];omega
 unfold Op.shift;rw[if_neg (by omega)];show(pure (Value.int .u64 (IntKind.u64.wrap ((a:Int)*2^(min d.toNat 64)))):Sem Value)=_;rw[e]
theorem Jo(a b:Int)(m:0<=a)(l:a<=65535)(h:0<=b)(i:b<=65535)(w:World):Calls prog 303 #[a,b] w fun e n=>e=.returned (.int .i64 (serDiff a b))/\n=w:=by
 have c:=Lh (pe m l);have g:=Lh (pe h i);have p:bits .and .i64 (b-a) 65535=(b-a)%65536:=by have:=Kd (b-a) 16 65535 (by decide) (by decide);simpa using this
 have ED:=Lh (IA c.out g.out);have wr:IntKind.i64.wrap (b-a)=b-a:=by rw[IntKind.wrap_i64];omega
 obtain⟨D,k⟩:∃D,(b-a)%65536=D:=⟨_,rfl⟩;have o:0<=D/\D<65536:=by omega
 obtain⟨q,r⟩:=o;rw[k] at p ED;clear k m l h i;by_cases j:32768<D
 ·have f:Hid (serDiff a b=D-65536):=by show _=_;rw[ED.out,if_pos j]
  clear ED;go_enter func303,ntmps303;go_wp2_with fail;refine(gi _ _ c.out _).mono ?_;rintro e d ⟨rfl,rfl⟩;go_wp2_with fail;refine(gi _ _ g.out _).mono ?_;rintro e d ⟨rfl,rfl⟩;go_wp2_with fail;go_ret;exact⟨by rw[f.out]<;>rfl,rfl⟩
 ·have f:Hid (serDiff a b=D):=by show _=_;rw[ED.out,if_neg j]
  clear ED;go_enter func303,ntmps303;go_wp2_with fail;refine(gi _ _ c.out _).mono ?_;rintro e d ⟨rfl,rfl⟩;go_wp2_with fail;refine(gi _ _ g.out _).mono ?_;rintro e d ⟨rfl,rfl⟩;go_wp2_with fail;go_ret;exact⟨by rw[f.out]<;>rfl,rfl⟩
theorem Kg(g:Nat)(s:Int)(w:World)(x:Ca)(h:Blk w g (Hd x) 375)(l:0<=s/\s<=65535)(m:0<=x.last/\x.last<=65535):Calls prog 304 #[.pointer (some ⟨g,0,none⟩),s] w fun e k=>e=.returned (.int .u64 (x.bit s:Nat))/\k=w:=by
 have c:Hid (∀w,Calls prog 303 #[.int .i64 x.last,s] w fun e k=>e=.returned (.int .i64 (serDiff x.last s))/\k=w):=fun w=>Jo _ _ m.1 m.2 l.1 l.2 w;have E:x.bit s=(if -serDiff x.last s<0∨64 <= -serDiff x.last s then 0 else 2^(-serDiff x.last s).toNat):=rfl;have u:=C3 x.last s;obtain⟨D,p⟩:∃D,serDiff x.last s=D:=⟨_,rfl⟩;rw[p] at E c u;obtain⟨C,G⟩:=u;obtain⟨d,f,i⟩:=x;obtain⟨A,z,H,-⟩:=cz h;have F:IntKind.i64.wrap (-D)=-D:=by rw[IntKind.wrap_i64];omega
 clear h m l p;by_cases y : -D<0
 ·have b:Hid (Ca.bit ⟨d,f,i⟩ s=0):=by show _=_;rw[E,if_pos (.inl y)]
  clear E;go_enter func304,ntmps304;go_wp2_with (go_at_call 303;refine(c.out _).mono ?_;rintro e o ⟨rfl,rfl⟩)
  go_ret;exact⟨by rw[b.out]<;>rfl,rfl⟩
 ·by_cases v:64 <= -D
  ·have b:Hid (Ca.bit ⟨d,f,i⟩ s=0):=by show _=_;rw[E,if_pos (.inr v)]
   clear E;go_enter func304,ntmps304;go_wp2_with (go_at_call 303;refine(c.out _).mono ?_;rintro e o ⟨rfl,rfl⟩)
   go_ret;exact⟨by rw[b.out]<;>rfl,rfl⟩
  ·have b:Hid (Ca.bit ⟨d,f,i⟩ s=2^(-D).toNat):=by show _=_;rw[E,if_neg (by omega)]
   have r:2^(-D).toNat<18446744073709551616:=Nat.pow_lt_pow_right (a:=2) (n:=64) (by decide) (by omega);have j:(2:Int)^(-D).toNat=((2^(-D).toNat:Nat):Int):=by rw[Int.natCast_pow];rfl
   obtain⟨q,t⟩:∃q,2^(-D).toNat=q:=⟨_,rfl⟩;rw[t] at r j b;have B:IntKind.u64.wrap (2^(-D).toNat)=(q:Int):=by rw[IntKind.wrap_u64,j];omega
   clear E t j r;go_enter func304,ntmps304;go_wp2_with (go_at_call 303;refine(c.out _).mono ?_;rintro e o ⟨rfl,rfl⟩)
   go_ret;exact⟨by rw[b.out]<;>rfl,rfl⟩
theorem Ut(x:Ca)(s:Int):x.bit s<18446744073709551616:=by
 unfold Ca.bit;simp only;split
 ·decide
 ·exact Nat.pow_lt_pow_right (a:=2) (n:=64) (by decide) (by omega)
theorem MD(g:Nat)(s:Int)(w:World)(x:Ca)(h:Hid (Blk w g (Hd x) 375))(p:0<=s/\s<=65535)(z:0<=x.last/\x.last<=65535)(B:x.seen<18446744073709551616):Calls prog 255 #[.pointer (some ⟨g,0,none⟩),s] w fun e o=>e=.returned (.int .i64 (x.hear s).2)/\ah g w o/\Blk o g (Hd (x.hear s).1) 375:=by
 have f:=Lh (pe p.1 p.2);have j:Hid (∀w,Calls prog 303 #[.int .i64 x.last,s] w fun e o=>e=.returned (.int .i64 (serDiff x.last s))/\o=w):=fun w=>Jo _ _ z.1 z.2 p.1 p.2 w;have k:Hid (Calls prog 304 #[.pointer (some ⟨g,0,none⟩),s] w fun e o=>e=.returned (.int .u64 (x.bit s:Nat))/\o=w):=Kg g s w x h.out p z
 have E:x.hear s=if x.any=false then (⟨true,s,1⟩,0) else if serDiff x.last s=32768 then (x,9) else if 0<serDiff x.last s then (⟨x.any,s,(x.seen<<<(serDiff x.last s).toNat)%18446744073709551616|||1⟩,0) else if x.bit s=0∨x.seen&&&x.bit s≠0 then (x,9) else (⟨x.any,x.last,x.seen|||x.bit s⟩,0):=by
  unfold Ca.hear;rw[if_neg (by rw[f.out];decide)]
 have H:=C3 x.last s;have l:=Ut x s;obtain⟨q,J⟩:∃q,x.bit s=q:=⟨_,rfl⟩;obtain⟨D,G⟩:∃D,serDiff x.last s=D:=⟨_,rfl⟩;rw[J] at k E l;rw[G] at E j H;obtain⟨N,R⟩:=H;obtain⟨a,M,d⟩:=x;obtain⟨P,O,T,-⟩:=cz h.out;simp only at E B;clear z p G J;have n:=h;clear h;cases a with
 | false=>
  rw[if_pos rfl] at E;rw[E];clear E;go_enter func255,ntmps255;go_wp2_with (first|(go_at_call 115;refine(gi _ _ f.out _).mono ?_;rintro e b ⟨rfl,rfl⟩)|(go_at_call 303;refine(j.out _).mono ?_;rintro e b ⟨rfl,rfl⟩)|(go_at_call 304;refine k.out.mono ?_;rintro e b ⟨rfl,rfl⟩))
  go_ret;exact⟨rfl,((ah.refl.setCell 0 _).setCell 1 _).setCell 2 _,(((n.out.ab 0 _).ab 1 _).ab 2 _).of_eq rfl⟩
 | true=>
  rw[if_neg (by decide)] at E;by_cases y:D=32768
  ·rw[if_pos y] at E;rw[E];subst y;clear E;go_enter func255,ntmps255;go_wp2_with (first|(go_at_call 115;refine(gi _ _ f.out _).mono ?_;rintro e b ⟨rfl,rfl⟩)|(go_at_call 303;refine(j.out _).mono ?_;rintro e b ⟨rfl,rfl⟩)|(go_at_call 304;refine k.out.mono ?_;rintro e b ⟨rfl,rfl⟩))
   go_ret;exact⟨rfl,ah.refl,n.out⟩
  ·rw[if_neg y] at E;have L:(D==32768)=false:=by simp[y]
   by_cases K:0<D
   ·rw[if_pos K] at E;rw[E];have F:=Re d D (by omega);obtain⟨m,u⟩:∃m,(d<<<D.toNat)%18446744073709551616=m:=⟨_,rfl⟩;have C:m<18446744073709551616:=by rw[<-u];exact Nat.mod_lt _ (by decide)
    rw[u] at F;have i:bits .or .u64 (m:Int) 1=((m|||1:Nat):Int):=u64_or_nat m 1 C (by decide);rw[u];clear E u;go_enter func255,ntmps255;go_wp2_with (first|(go_at_call 115;refine(gi _ _ f.out _).mono ?_;rintro e b ⟨rfl,rfl⟩)|(go_at_call 303;refine(j.out _).mono ?_;rintro e b ⟨rfl,rfl⟩)|(go_at_call 304;refine k.out.mono ?_;rintro e b ⟨rfl,rfl⟩))
    go_ret;exact⟨rfl,((ah.refl.setCell 1 _).setCell 2 _),((n.out.ab 1 _).ab 2 _).of_eq rfl⟩
   ·rw[if_neg K] at E;have c:bits .and .u64 (d:Int) (q:Int)=((d&&&q:Nat):Int):=u64_and_nat d q B l;have i:bits .or .u64 (d:Int) (q:Int)=((d|||q:Nat):Int):=u64_or_nat d q B l;by_cases v:q=0
    ·rw[if_pos (.inl v)] at E;rw[E];subst v;clear E c i;go_enter func255,ntmps255;go_wp2_with (first|(go_at_call 115;refine(gi _ _ f.out _).mono ?_;rintro e b ⟨rfl,rfl⟩)|(go_at_call 303;refine(j.out _).mono ?_;rintro e b ⟨rfl,rfl⟩)|(go_at_call 304;refine k.out.mono ?_;rintro e b ⟨rfl,rfl⟩))
     go_ret;exact⟨rfl,ah.refl,n.out⟩
    ·by_cases t:d&&&q=0
     ·rw[if_neg (by simp[v,t])] at E;rw[E];rw[t] at c;have A:¬(q:Int)=0:=by omega
      clear E;go_enter func255,ntmps255;go_wp2_with (first|(go_at_call 115;refine(gi _ _ f.out _).mono ?_;rintro e b ⟨rfl,rfl⟩)|(go_at_call 303;refine(j.out _).mono ?_;rintro e b ⟨rfl,rfl⟩)|(go_at_call 304;refine k.out.mono ?_;rintro e b ⟨rfl,rfl⟩))
      go_ret;exact⟨rfl,(ah.refl.setCell 2 _),(n.out.ab 2 _).of_eq rfl⟩
     ·rw[if_pos (.inr t)] at E;rw[E];obtain⟨r,I⟩:∃r,d&&&q=r:=⟨_,rfl⟩;rw[I] at c t;have A:¬(q:Int)=0:=by omega
      have Q:((q:Int)==0)=false:=by simp[v]
      have S:((r:Int) != 0)=true:=by simp[t]
      clear E i I;go_enter func255,ntmps255;go_wp2_with (first|(go_at_call 115;refine(gi _ _ f.out _).mono ?_;rintro e b ⟨rfl,rfl⟩)|(go_at_call 303;refine(j.out _).mono ?_;rintro e b ⟨rfl,rfl⟩)|(go_at_call 304;refine k.out.mono ?_;rintro e b ⟨rfl,rfl⟩))
      go_ret;exact⟨rfl,ah.refl,n.out⟩
abbrev Pg:Value:=.agg #[.int .i64 0,false,.pointer none]
theorem L7(t:cB)(n a:Int)(h:lk t.lives n=none):t.begin n a=({t with ents:=match lk t.ents n with|some x=>ins t.ents n ⟨n,x.boot,x.heard,false,.zero,0⟩|none=>t.ents},(⟨a,false,⟨false,0,0⟩⟩,0)):=by unfold cB.begin;simp only [h];rfl
theorem L5(t:cB)(n a:Int)(l:Ja)(h:lk t.lives n=some l):t.begin n a=if l.boot=a then (if l.left then (t,(⟨0,false,⟨false,0,0⟩⟩,9)) else (t,(l,0)))
  else if sh l.boot a=false then (t,(⟨0,false,⟨false,0,0⟩⟩,9))
  else ({t with ents:=match lk t.ents n with|some x=>ins t.ents n ⟨n,x.boot,x.heard,false,.zero,0⟩|none=>t.ents},(⟨a,false,⟨false,0,0⟩⟩,0)):=by unfold cB.begin;simp only[h];rfl
section
variable {S:Nat->Prop} {w:World} {g:Nat} {L:Ah} {t:cB} (H:dR S w g L t)
include H
theorem JC(n a:Int)(m : -9223372036854775808<=n/\n<=9223372036854775807)(l:Ja)(r:lk t.lives n=some l)(i:0<=l.boot/\l.boot<=65535)(u:0<=a/\a<=65535)(o:l.boot=a/\l.left=true∨¬l.boot=a/\sh l.boot a=false):zR 254 #[.pointer (some ⟨g,0,none⟩),n,a] w (.tuple #[Pg,.int .i64 9]):=by
 have s:Hid (lk (t.lives.map fun p=>(p.1,tt (L.wb p.1) p.2)) n=some (tt (L.wb n) l)):=by show _=_;rw[A4,r];rfl
 have k:=Lh H;have q:=Lh m;have j:Hid (sh l.boot a=false->∀w,zR 301 #[.int .i64 l.boot,a] w (.bool false)):=fun h w=>Jn _ _ i.1 i.2 u.1 u.2 _ h w;obtain⟨C,B,E,-⟩:=cz H.blk;obtain⟨x,D,lw⟩:=l;simp only at o j i;clear H m r;rcases o with ⟨rfl,rfl⟩|⟨z,y⟩
 ·clear j;go_enter func254,ntmps254
  go_wp2_with (first
   | (at_lookup;refine cX rfl _ _ 126 344 rfl underlying126 _ zc L.ml _ rfl (k.out.ml.below ad) n rfl q.out _ s.out ?_))
  exact rT 3 #[.int .i64 0,.bool false,.pointer none] (.int .i64 9) ⟨rfl,ad⟩
 ·have v:(x==a)=false:=by simp[z]
  go_enter func254,ntmps254
  go_wp2_with (first
   | (at_lookup;refine cX rfl _ _ 126 344 rfl underlying126 _ zc L.ml _ rfl (k.out.ml.below ad) n rfl q.out _ s.out ?_)
   | (go_at_call 301;refine(j.out y _).mono ?_;rintro e A ⟨rfl,b⟩;have c:=b.size;(try simp at c);have d:=bq2 b (w.heap.size);have f:=bq b (g)))
  exact rT 3 #[.int .i64 0,.bool false,.pointer none] (.int .i64 9) ⟨rfl,ad⟩
theorem L6(n a:Int)(c : -9223372036854775808<=n/\n<=9223372036854775807)(b:Ca)(d:lk t.lives n=some ⟨a,false,b⟩):zR 254 #[.pointer (some ⟨g,0,none⟩),n,a] w (.tuple #[tt (L.wb n) ⟨a,false,b⟩,.int .i64 0]):=by
 have f:Hid (lk (t.lives.map fun p=>(p.1,tt (L.wb p.1) p.2)) n=some (tt (L.wb n) ⟨a,false,b⟩)):=by show _=_;rw[A4,d];rfl
 have e:=Lh H;have h:=Lh c;obtain⟨i,k,j,-⟩:=cz H.blk;clear H c d;go_enter func254,ntmps254
 go_wp2_with (first
  | (at_lookup;refine cX rfl _ _ 126 344 rfl underlying126 _ zc L.ml _ rfl (e.out.ml.below ad) n rfl h.out _ f.out ?_))
 exact rT 3 #[.int .i64 a,.bool false,.pointer (some ⟨L.wb n,0,none⟩)] (.int .i64 0) ⟨rfl,ad⟩
theorem Lg(OK:dA t)(n a:Int)(Y : -9223372036854775808<=n/\n<=9223372036854775807)(V:0<=a/\a<=65535)(hc:lk t.lives n=none∨∃l,lk t.lives n=some l/\(0<=l.boot/\l.boot<=65535)/\¬l.boot=a/\sh l.boot a=true):Calls prog 254 #[.pointer (some ⟨g,0,none⟩),n,a] w fun e w'=>∃b,e=.returned (.tuple #[tt b ⟨a,false,⟨false,0,0⟩⟩,.int .i64 0])/\w.heap.size<=b/\Blk w' b (Hd ⟨false,0,0⟩) 375/\ah L.me w w'/\
   dR S w' g L {t with ents:=match lk t.ents n with|some x=>ins t.ents n ⟨n,x.boot,x.heard,false,.zero,0⟩|none=>t.ents}:=by
 have f:=Lh H;have q:=Lh Y;have HK:=Lh OK.len.1;obtain⟨B,A,C,-⟩:=cz H.blk;obtain⟨rl,j⟩:∃r,lk (t.lives.map fun p=>(p.1,tt (L.wb p.1) p.2)) n=r:=⟨_,rfl⟩;have U:=Lh j
 have HC:(∃v,rl=some v/\∃E ll lp,v=.agg #[.int .i64 E,.bool ll,.pointer (some ⟨lp,0,none⟩)]/\¬E=a/\Hid (∀w,zR 301 #[E,a] w (.bool true)))∨rl=none:=by
  rcases hc with h|⟨l,h,h2,h3,h4⟩
  ·exact .inr (by rw[<-j,A4,h];rfl)
  ·exact .inl ⟨tt (L.wb n) l,by rw[<-j,A4,h];rfl,_,_,_,rfl,h3,fun w=>Jn _ _ h2.1 h2.2 V.1 V.2 _ h4 w⟩
 cases hx:lk t.ents n with
 | none=>
  have P:Hid (lk (t.ents.map fun p=>(p.1,kx p.2)) n=none):=by show _=_;rw[Bo,hx];rfl
  clear H Y V hc j hx OK;rcases HC with ⟨v,rfl,E,ll,lp,rfl,k1,HS⟩|rfl
  ·have Z:(E==a)=false:=by simp[k1]
   go_enter func254,ntmps254
   go_wp2_with (first
    | (at_lookup;refine cX rfl _ _ 126 344 rfl underlying126 _ zc L.ml _ rfl (f.out.ml.below ad) n rfl q.out _ U.out ?_)
    | (at_lookup;refine cX rfl _ _ 125 99 rfl underlying125 _ ql L.me _ rfl (f.out.me.below ad) n rfl q.out _ P.out ?_)
    | (go_at_call 301;refine(HS.out _).mono ?_;rintro e N ⟨rfl,c⟩;have o:=c.size;(try simp at o);have D:=bq c (w.heap.size);have J:=bq c (w.heap.size+1);have y:=bq c (g))
    | (go_at_call 302;refine(E6 _).mono ?_;rintro e N ⟨rfl,h⟩;have G:=h.symm;subst G))
   exact rT 3 #[.int .i64 a,.bool false,.pointer (some ⟨N.heap.size+1,0,none⟩)] (.int .i64 0) ⟨_,rfl,(by first|omega|(simp;done)|(simp;omega)|fail),Blk.new' _ _ _ (by simp),ah.of_below ad,f.out.below ad⟩
  ·go_enter func254,ntmps254
   go_wp2_with (first
    | (at_lookup;refine cX rfl _ _ 126 344 rfl underlying126 _ zc L.ml _ rfl (f.out.ml.below ad) n rfl q.out _ U.out ?_)
    | (at_lookup;refine cX rfl _ _ 125 99 rfl underlying125 _ ql L.me _ rfl (f.out.me.below ad) n rfl q.out _ P.out ?_)
    | (go_at_call 302;refine(E6 _).mono ?_;rintro e N ⟨rfl,h⟩;have G:=h.symm;subst G))
   exact rT 3 #[.int .i64 a,.bool false,.pointer (some ⟨w.heap.size+1+1+1,0,none⟩)] (.int .i64 0) ⟨_,rfl,(by first|omega|(simp;done)|(simp;omega)|fail),Blk.new' _ _ _ (by simp),ah.of_below ad,f.out.below ad⟩
 | some x=>
  have P:Hid (lk (t.ents.map fun p=>(p.1,kx p.2)) n=some (kx x)):=by show _=_;rw[Bo,hx];rfl
  obtain⟨x0,K,M,x3,⟨e0,e1,e2,e3,e4⟩,x5⟩:=x;clear H Y V hc j hx OK;rcases HC with ⟨v,rfl,E,ll,lp,rfl,k1,HS⟩|rfl
  ·have Z:(E==a)=false:=by simp[k1]
   go_enter func254,ntmps254
   go_wp2_with (first
    | (at_lookup;refine cX rfl _ _ 126 344 rfl underlying126 _ zc L.ml _ rfl (f.out.ml.below ad) n rfl q.out _ U.out ?_)
    | (at_lookup;refine cX rfl _ _ 125 99 rfl underlying125 _ ql L.me _ rfl (f.out.me.below ad) n rfl q.out _ P.out ?_)
    | (go_at_call 301;refine(HS.out _).mono ?_;rintro e N ⟨rfl,c⟩;have o:=c.size;(try simp at o);have D:=bq c (w.heap.size);have J:=bq c (w.heap.size+1);have y:=bq c (g)))
   refine eN ?_;intro u z;have O:Hid (zB w u):=by rw[z];exact(show Below _ _ _ from ad)
   have T:Hid (Blk u w.heap.size #[.int .i64 0,false,.pointer none] 344):=by rw[z];exact(show Blk _ _ _ _ from cC)
   have W:Hid (Blk u N.heap.size (entC ⟨x0,K,M,x3,⟨e0,e1,e2,e3,e4⟩,x5⟩) 99):=by rw[z];exact Blk.new' _ _ _ (by simp)
   have F:=Lh (f.out.below O.out);clear z B A C;obtain⟨s,i,d,m⟩:=F.out.store n q.out HK.out ⟨n,K,M,false,⟨0,0,0,0,0⟩,0⟩;have RT:Hid (dR S s g L {t with ents:=ins t.ents n ⟨n,K,M,false,.zero,0⟩}):=m;have Q:Hid (ah L.me w s):=(ah.of_below O.out).trans d;have R:=Lh (d.blk T.out (Ne.symm (F.out.me.ne T.out)));obtain⟨B,A,C,-⟩:=cz F.out.blk;obtain⟨y2,c2,f2,-⟩:=cz W.out;clear m d;go_region
   clear B A C y2 c2 f2 i;obtain⟨B,A,C,-⟩:=cz R.out;have I:w.heap.size<=s.heap.size:=Q.out.size;go_wp2_with (go_at_call 302;refine(E6 _).mono ?_;rintro e w2 ⟨rfl,h⟩;have G:=h.symm;subst G)
   refine rT 3 #[.int .i64 a,.bool false,.pointer (some ⟨s.heap.size,0,none⟩)] (.int .i64 0) ⟨_,rfl,I,Blk.new' _ _ _ (by simp),?_,?_⟩
   ·have X:=Q.out;exact dY
   ·exact RT.out.only (k:=w.heap.size) dY R.out (by decide) (by decide)
  ·go_enter func254,ntmps254
   go_wp2_with (first
    | (at_lookup;refine cX rfl _ _ 126 344 rfl underlying126 _ zc L.ml _ rfl (f.out.ml.below ad) n rfl q.out _ U.out ?_)
    | (at_lookup;refine cX rfl _ _ 125 99 rfl underlying125 _ ql L.me _ rfl (f.out.me.below ad) n rfl q.out _ P.out ?_))
   refine eN ?_;intro u z;have O:Hid (zB w u):=by rw[z];exact(show Below _ _ _ from ad)
   have T:Hid (Blk u w.heap.size #[.int .i64 0,false,.pointer none] 344):=by rw[z];exact(show Blk _ _ _ _ from cC)
   have W:Hid (Blk u (w.heap.size+1+1) (entC ⟨x0,K,M,x3,⟨e0,e1,e2,e3,e4⟩,x5⟩) 99):=by rw[z];exact Blk.new' _ _ _ (by simp)
   have F:=Lh (f.out.below O.out);clear z B A C;obtain⟨s,i,d,m⟩:=F.out.store n q.out HK.out ⟨n,K,M,false,⟨0,0,0,0,0⟩,0⟩;have RT:Hid (dR S s g L {t with ents:=ins t.ents n ⟨n,K,M,false,.zero,0⟩}):=m;have Q:Hid (ah L.me w s):=(ah.of_below O.out).trans d;have R:=Lh (d.blk T.out (Ne.symm (F.out.me.ne T.out)));obtain⟨B,A,C,-⟩:=cz F.out.blk;obtain⟨y2,c2,f2,-⟩:=cz W.out;clear m d;go_region
   clear B A C y2 c2 f2 i;obtain⟨B,A,C,-⟩:=cz R.out;have I:w.heap.size<=s.heap.size:=Q.out.size;go_wp2_with (go_at_call 302;refine(E6 _).mono ?_;rintro e w2 ⟨rfl,h⟩;have G:=h.symm;subst G)
   refine rT 3 #[.int .i64 a,.bool false,.pointer (some ⟨s.heap.size,0,none⟩)] (.int .i64 0) ⟨_,rfl,I,Blk.new' _ _ _ (by simp),?_,?_⟩
   ·have X:=Q.out;exact dY
   ·exact RT.out.only (k:=w.heap.size) dY R.out (by decide) (by decide)
end
theorem NB(L:Ah)(a:List (Int×Ja))(n:Int)(b:Nat)(l:Ja):ins (a.map fun p=>(p.1,tt (L.wb p.1) p.2)) n (tt b l)=(ins a n l).map fun p=>(p.1,tt (if p.1=n then b else L.wb p.1) p.2):=by
 have c:=Mq (fun k x=>tt (if k=n then b else L.wb k) x) a n l;simp only[if_pos] at c;rw[<-c];unfold ins
 have e:del (a.map fun p=>(p.1,tt (L.wb p.1) p.2)) n=del (a.map fun p=>(p.1,tt (if p.1=n then b else L.wb p.1) p.2)) n:=by
  rw[Il (fun k x=>tt (L.wb k) x),Il (fun k x=>tt (if k=n then b else L.wb k) x)];refine List.map_congr_left fun p d=>?_;rw[if_neg (Ar.1 d).2]
 rw[e]
theorem dR.Ks{S:Nat->Prop}{w v d:World}{g:Nat}{L:Ah}{t:cB}(h:dR S w g L t)(n:Int){b:Nat}{c:Array Value}(i:∀p∈t.lives,p.1≠n->L.wb p.1≠b)(C:S b)(r:Blk w b c 375)(y:ah L.ml w v)(l:Ja)(z:dl v L.ml (ins (t.lives.map fun p=>(p.1,tt (L.wb p.1) p.2)) n (tt b l)))(m:ah b v d)(D:Blk d b (Hd l.w) 375):dR S d g {L with wb:=fun k=>if k=n then b else L.wb k} {t with lives:=ins t.lives n l}:=by
 have x:b≠L.ml:=Ne.symm (h.ml.ne r);have u:b≠L.me:=Ne.symm (h.me.ne r);have B {k:Nat} {c:Array Value} {ty:TypeId} (A:Blk w k c ty) (f:k≠b):Blk d k c ty:=m.blk (y.blk A (Ne.symm (h.ml.ne A))) f;have E:g≠b:=Blk.ne h.blk r (by decide);rw[NB] at z;refine⟨B h.blk E,dl.only (dl.only h.me y h.ne) m (Ne.symm u),dl.only z m (Ne.symm x),h.ne,h.sg,h.sm,h.sl,?_,?_⟩
 ·intro p a;rcases mem_ins.1 a with rfl|⟨a,f⟩
  ·simp only[if_pos];exact⟨D,C⟩
  ·simp only[if_neg f];exact⟨B (h.win p a).1 (i p a f),(h.win p a).2⟩
 ·intro p a q s e;rcases mem_ins.1 a with rfl|⟨a,j⟩<;>rcases mem_ins.1 s with rfl|⟨s,o⟩
  ·rfl
  ·simp only[if_pos,if_neg o] at e;exact absurd e.symm (i q s o)
  ·simp only[if_pos,if_neg j] at e;exact absurd e (i p a j)
  ·simp only[if_neg j,if_neg o] at e;exact h.inj p a q s e
structure Vj (S:Nat->Prop) (w w':World) (g:Nat) (L:Ah) (t t1:cB) (n:Int) (b:Nat) (l:Ja):Prop where
 fo:ah L.me w w'
 ft:dR S w' g L t1
 fb:Blk w' b (Hd l.w) 375
 fs:S b
 fn:∀p∈t1.lives,p.1≠n->L.wb p.1≠b
theorem dl.K8{w:World}{b:Nat}{M:List (Int×Value)}(h:dl w b M)(t e:TypeId)(j:prog.underlying t=some (.map 3 e))(k:Int)(d : -9223372036854775808<=k/\k<=9223372036854775807)(ty:TypeId):∃a,(Builtin.delete_ #[t,3] ty #[.map (some b),.int .i64 k]).run prog w=.ok (.tuple #[]) a/\dl a b (del M k)/\ah b w a:=by
 obtain⟨a,i,f,c⟩:=World.ownsMap.drop h IN j (F5 d) ty;rw[IK] at f;have g:=c.grown;exact⟨a,i,dl.JR f,⟨g.os,g.tape,g.output,g.size,fun k d l=>g.block k d (fun e=>l (by injection e))⟩⟩
section
variable {S:Nat->Prop} {w:World} {g:Nat} {L:Ah} {t:cB} (H:dR S w g L t) (OK:dA t)
include H OK
theorem SQ(E:∀k,w.heap.size<=k->S k)(n boot:Int)(F:nodeB n=true)(o:0<=boot/\boot<=65535)(i:cB)(l:Ja)(k:Int)(y:t.begin n boot=(i,(l,k))):(k=9/\i=t/\zR 254 #[.pointer (some ⟨g,0,none⟩),n,boot] w (.tuple #[Pg,.int .i64 9]))∨
  (k=0/\i.lives=t.lives/\i.most=t.most/\dA i/\(0<=l.boot/\l.boot<=65535/\0<=l.w.last/\l.w.last<=65535/\l.w.seen<18446744073709551616)/\l.left=false/\Calls prog 254 #[.pointer (some ⟨g,0,none⟩),n,boot] w fun e r=>∃b,e=.returned (.tuple #[tt b l,.int .i64 0])/\Vj S w r g L t i n b l):=by
 have s:0<=n/\n<64:=by simpa [nodeB] using F
 have u : -9223372036854775808<=n/\n<=9223372036854775807:=by omega
 have d : (lk t.lives n = none ∨ ∃ l, lk t.lives n = some l/\(0 <= l.boot/\l.boot <= 65535)/\¬ l.boot = boot/\sh l.boot boot = true)->t.begin n boot = ({ t with ents := match lk t.ents n with | some x => ins t.ents n ⟨n, x.boot, x.heard, false, .zero, 0⟩ | none => t.ents }, (⟨boot, false, ⟨false, 0, 0⟩⟩, 0))->
     k=0/\i.lives=t.lives/\i.most=t.most/\dA i/\(0<=l.boot/\l.boot<=65535/\0<=l.w.last/\l.w.last<=65535/\l.w.seen<18446744073709551616)/\l.left=false/\Calls prog 254 #[.pointer (some ⟨g,0,none⟩),n,boot] w fun e r=>∃b,e=.returned (.tuple #[tt b l,.int .i64 0])/\Vj S w r g L t i n b l:=by
  intro G D;rw[y] at D;injection D with c q
  injection q with q z
  subst c;subst q;subst z;refine⟨rfl,rfl,rfl,?_,⟨o.1,o.2,Int.le_refl 0,(by show(0:Int)<=65535;decide),(by show 0<18446744073709551616;decide)⟩,rfl,?_⟩
  ·cases hx:lk t.ents n with
   | none=>exact OK
   | some x=>
    have v:=OK.ents _ (pb hx);exact OK.put n _ ⟨rfl,s.1,s.2,v.2.2.2.1,v.2.2.2.2.1,v.2.2.2.2.2.1,v.2.2.2.2.2.2.1,⟨fun h=>(by cases h),Int.le_refl 0,(by show(0:Int)<=1000000;decide)⟩⟩
  ·refine(Lg H OK n boot u o G).mono ?_;rintro e r ⟨b,rfl,J,c,q,z⟩;exact⟨b,rfl,q,z,c,E b J,fun p B _ e=>by have:=(H.win p B).1.lt;omega⟩
 cases hl:lk t.lives n with
 | none=>exact .inr (d (.inl hl) (L7 t n boot hl))
 | some j=>
  have a:=OK.lives _ (pb hl);have f:=L5 t n boot j hl;by_cases c:j.boot=boot
  ·rw[if_pos c] at f;cases hf:j.left with
   | true=>
    rw[hf,if_pos rfl,y] at f;injection f with a1 a2
    injection a2 with a2 a3
    exact .inl ⟨a3,a1,JC H n boot u j hl ⟨a.2.2.1,a.2.2.2.1⟩ o (.inl ⟨c,hf⟩)⟩
   | false=>
    rw[hf,if_neg (by decide),y] at f;injection f with a1 a2
    injection a2 with a2 a3
    subst a1;subst a2;subst a3;obtain⟨I,K,lw⟩:=l;simp only at c hf a;subst c;subst hf;refine .inr ⟨rfl,rfl,rfl,OK,⟨o.1,o.2,a.2.2.2.2.1,a.2.2.2.2.2.1,a.2.2.2.2.2.2⟩,rfl,(L6 H n I u lw hl).mono ?_⟩;rintro e r ⟨rfl,m⟩;have C:=H.win _ (pb hl);exact⟨_,rfl,ah.of_below m,H.below m,C.1.keep m,C.2,fun p B A e=>A (H.inj p B _ (pb hl) e)⟩
  ·rw[if_neg c] at f;cases hs:sh j.boot boot with
   | false=>
    rw[hs,if_pos rfl,y] at f;injection f with a1 a2
    injection a2 with a2 a3
    exact .inl ⟨a3,a1,JC H n boot u j hl ⟨a.2.2.1,a.2.2.2.1⟩ o (.inr ⟨c,hs⟩)⟩
   | true=>
    rw[hs,if_neg (by decide)] at f;exact .inr (d (.inr ⟨j,hl,⟨a.2.2.1,a.2.2.2.1⟩,c,hs⟩) f)
theorem MS(hS:∀k,w.heap.size<=k->S k)(n boot c q:Int)(hn:nodeB n=true)(hb:ij boot=true)(hs:ij c=true)(hw:cA q=true)(tq:cB)(kq:Int)(Z:t.hear n boot c q=(tq,kq)):Calls prog 195 #[.pointer (some ⟨g,0,none⟩),n,boot,c,q] w fun e w'=>e=.returned (.int .i64 kq)/\aa S [375] true w w'/\∃L',dR S w' g L' tq:=by
 have e5:0<=n/\n<64:=by simpa [nodeB] using hn
 have hN : -9223372036854775808<=n/\n<=9223372036854775807:=by omega
 have b9:=(Bf _).1 hb;have c0:=(Bf _).1 hs;obtain⟨⟨j,l,k⟩,hk⟩:∃r,t.begin n boot=r:=⟨_,rfl⟩;have d4:=SQ H OK hS n boot hn b9 j l k hk
 have K : t.hear n boot c q = if k ≠ 0 then (j, k) else
     (if (l.w.hear c).2≠0 then ({j with lives:=ins j.lives n {l with w:=(l.w.hear c).1}},(l.w.hear c).2) else
     match lk j.ents n with
     | some x=>({j with lives:=ins j.lives n {l with w:=(l.w.hear c).1},ents:=ins j.ents n {x with node:=n,boot:=boot,heard:=q}},0)
     | none=>({j with lives:=ins j.lives n {l with w:=(l.w.hear c).1},ents:=ins (if j.most<=j.ents.length then del j.ents (elderF j.all).node else j.ents) n ⟨n,boot,q,false,.zero,0⟩},0)):=by
  unfold cB.hear;rw[if_neg (by simp[hn,hb,hs,hw]),hk];rfl
 rw[Z] at K;have HH:=Lh H;have HN:=Lh hN;have Hn:=Lh hn;have Hb:=Lh hb;have Hs:=Lh hs;have Hw:=Lh hw;have d8:=Lh c0;have HS:=Lh hS;obtain⟨Y,c1,f1,-⟩:=cz H.blk;clear H OK hn hb hs hw hS hN b9 c0 Z hk;rcases d4 with ⟨rfl,rfl,b1⟩|⟨rfl,e1,e2,a4,T,c7,a6⟩
 ·rw[if_pos (by decide)] at K;injection K with EQ1 EQ2
  subst EQ1;subst EQ2;have b1:=Lh b1;go_enter func195,ntmps195;go_wp2_with (first
  | (go_at_call 252;refine(Jl _ Hn.out _).mono ?_;rintro e X ⟨rfl,h⟩;have h9:=h.symm;subst h9)
  | (go_at_call 115;(first|with_reducible refine Calls.mono (gi _ _ Hb.out _) ?_|with_reducible refine Calls.mono (gi _ _ Hs.out _) ?_);rintro e X ⟨rfl,h⟩;have h9:=h.symm;subst h9)
  | (go_at_call 253;refine(Hg _ Hw.out _).mono ?_;rintro e X ⟨rfl,h⟩;have h9:=h.symm;subst h9)
  | (go_at_call 254;refine b1.out.mono ?_;rintro e w2 ⟨rfl,e6⟩))
  go_ret;have z2:=e6.size;exact⟨rfl,aa.of_below ad,_,HH.out.below ad⟩
 ·rw[if_neg (by decide)] at K;have a6:=Lh a6;clear e1 e2;have a8:(0<=l.w.last/\l.w.last<=65535):=⟨T.2.2.1,T.2.2.2.1⟩;have b2:l.w.seen<18446744073709551616:=T.2.2.2.2;have D:Hid (∀b X,Hid (Blk X b (Hd l.w) 375)->Calls prog 255 #[.pointer (some ⟨b,0,none⟩),c] X fun e w'=>e=.returned (.int .i64 (l.w.hear c).2)/\ah b X w'/\Blk w' b (Hd (l.w.hear c).1) 375):=fun b X h=>MD b c X l.w h d8.out a8 b2;have HK:=Lh a4.len;have d2:=Mr l.w c ⟨a8.1,a8.2,b2⟩;have b3:=Lh (a4.live n {l with w:=(l.w.hear c).1} e5 ⟨T.1,T.2.1,d2⟩);clear d2;obtain⟨⟨x',kw⟩,c9⟩:∃r,l.w.hear c=r:=⟨_,rfl⟩;rw[c9] at K D b3;simp only at K D b3;obtain⟨lb,ll,lw⟩:=l;simp only at c7 T;subst c7;clear T a8 b2 c9;go_enter func195,ntmps195;go_wp2_with (first
  | (go_at_call 252;refine(Jl _ Hn.out _).mono ?_;rintro e X ⟨rfl,h⟩;have h9:=h.symm;subst h9)
  | (go_at_call 115;(first|with_reducible refine Calls.mono (gi _ _ Hb.out _) ?_|with_reducible refine Calls.mono (gi _ _ Hs.out _) ?_);rintro e X ⟨rfl,h⟩;have h9:=h.symm;subst h9)
  | (go_at_call 253;refine(Hg _ Hw.out _).mono ?_;rintro e X ⟨rfl,h⟩;have h9:=h.symm;subst h9)
  | (go_at_call 254;refine a6.out.mono ?_;rintro e w2 ⟨b,rfl,R⟩))
  refine eN ?_;intro u hu;have z2:w.heap.size<=w2.heap.size:=R.fo.size;have P:zB w2 u:=by rw[hu];exact(Below.refl _ _).alloc (Nat.le_refl _) _
  have UC:Hid (Blk u w2.heap.size #[lb,false,.pointer (some ⟨b,0,none⟩)] 344):=by rw[hu];exact Blk.new _ _ _
  have UT:=Lh (R.ft.below P);have UW:=Lh (R.fb.keep P);have UO:Hid (ah L.me w u):=R.fo.trans (ah.of_below P);have c8:=Lh R.fs;have d9:=Lh R.fn;clear hu R P a6 Y c1 f1;obtain⟨w3,c4,d1,a5⟩:=UT.out.ml.Hi 126 344 underlying126 (by have:=HK.out.2;simp[maxLen];omega) n HN.out (tt b ⟨lb,false,lw⟩);have WW:Hid (Blk w3 b (Hd lw) 375):=a5.blk UW.out (Ne.symm (UT.out.ml.ne UW.out));have WC:Hid (Blk w3 w2.heap.size #[lb,false,.pointer (some ⟨b,0,none⟩)] 344):=a5.blk UC.out (Ne.symm (UT.out.ml.ne UC.out));have WO:=Lh a5;have WM:=Lh d1;obtain⟨Y,c1,f1,-⟩:=cz UT.out.blk;obtain⟨y2,c2,f2,-⟩:=cz UC.out;have r2:=UC.out.row?_all 3 rfl
  have KF:Hid (∀f,ah b w3 f->Blk f b (Hd x') 375->aa S [375] true w f/\dR S f g {L with wb:=fun k=>if k=n then b else L.wb k} {j with lives:=ins j.lives n ⟨lb,false,x'⟩}):=by
   intro f o s;refine⟨?_,UT.out.Ks n d9.out c8.out UW.out WO.out ⟨lb,false,x'⟩ WM.out o s⟩;have k1:aa S [375] true w u:=bg.cU UO.out (.inl ⟨HH.out.sm,OfT.map HH.out.me⟩);have k2:aa S [375] true u w3:=bg.cU WO.out (.inl ⟨UT.out.sl,OfT.map UT.out.ml⟩);have k3:aa S [375] true w3 f:=aa.cU o WW.out (by simp) c8.out;exact(k1.trans k2 (fun _ _ h=>h)).trans k3 (fun _ _ h=>h)
  clear d1 a5;go_region
  clear Y c1 f1 y2 c2 f2 r2 c4;obtain⟨y2,c2,f2,-⟩:=cz WC.out;by_cases b4:kw=0
  ·subst b4;rw[if_neg (by decide)] at K;have a3:=HK.out.1;obtain⟨rx,b6⟩:∃r,lk j.ents n=r:=⟨_,rfl⟩;rw[b6] at K;have HL:Hid (lk (j.ents.map fun p=>(p.1,kx p.2)) n=rx.map kx):=by show _=_;rw[Bo,b6]
   clear b6;cases rx with
   | some x=>
    simp only at K;injection K with EQ1 EQ2
    subst EQ1;subst EQ2;obtain⟨x0,x1,x2,x3,⟨e0,e1,e2,e3,e4⟩,x5⟩:=x
    go_wp2_with (first
     | (go_at_call 255;refine(D.out b w3 WW).mono ?_;rintro e f ⟨rfl,o,s⟩;obtain⟨E,C⟩:=KF.out f o s;clear o s;obtain⟨Y,c1,f1,-⟩:=cz C.blk;replace C:=Lh C;replace E:=Lh E)
     | (at_lookup;refine cX rfl _ _ 125 99 rfl underlying125 _ ql L.me _ rfl (C.out.me.below ad) n rfl HN.out _ HL.out ?_))
    refine eN ?_;intro Q y;have P:zB f Q:=by rw[y];exact(Below.refl _ _).alloc (Nat.le_refl _) _
    have G:Hid (Blk Q f.heap.size (entC ⟨x0,x1,x2,x3,⟨e0,e1,e2,e3,e4⟩,x5⟩) 99):=by rw[y];exact Blk.new _ _ _
    have B:=Lh (C.out.below P);have U:Hid (aa S [375] true w Q):=E.out.trans (aa.of_below (S:=S) P) (fun _ _ h=>h);have z4:w.heap.size<=f.heap.size:=E.out.size;clear y C E P Y c1 f1 y2 c2 f2 KF D;refine wp_region_quiet_below (by kernel_rfl) (by kernel_rfl) ?_;repeat (go_big_quiet_step (fail))
    refine wpQuiet_nil ?_;intro wq N;have m:=ay N;replace B:=Lh (B.out.below m);replace G:=Lh (G.out.keep m);replace U:Hid (aa S [375] true w wq):=U.out.trans (aa.of_below (S:=S) m) (fun _ _ h=>h);clear N m;obtain⟨y3,c3,f3,-⟩:=cz G.out;go_wp2_with fail;refine eN ?_;intro u5 z;have XE:Hid (Blk u5 f.heap.size (entC ⟨n,boot,q,x3,⟨e0,e1,e2,e3,e4⟩,x5⟩) 99):=by rw[z];have XX:=G.out;exact(by apply Blk.of_eq;(focus (repeat (first|with_reducible exact XX|with_reducible apply Blk.drew|with_reducible apply blk_drewN|with_reducible apply Blk.alloc|with_reducible apply Blk.ab)));first|rfl|(simp;done))
    have A:ah f.heap.size wq u5:=by rw[z];exact(show ah _ _ _ from dY)
    have a:=Lh (B.out.only A G.out (by decide) (by decide));have I:Hid (aa S [375] true w u5):=bg.gZ U.out A (.inr z4);clear z A B U G y3 c3 f3;obtain⟨w9,a0,M,J⟩:=a.out.store n HN.out (by exact a3) ⟨n,boot,q,x3,⟨e0,e1,e2,e3,e4⟩,x5⟩;obtain⟨Y,c1,f1,-⟩:=cz a.out.blk;have r3:=XE.out.row?_all 10 rfl;have RT:=Lh J;have RO:Hid (aa S [375] true w w9):=I.out.trans (bg.cU M (.inl ⟨a.out.sm,OfT.map a.out.me⟩)) (fun _ _ h=>h);clear J M a I;go_region
    go_wp2_with fail;go_ret;exact⟨rfl,RO.out,_,RT.out⟩
   | none=>
    simp only at K;by_cases a1:j.most<=j.ents.length
    ·rw[if_pos a1] at K;injection K with EQ1 EQ2
     subst EQ1;subst EQ2
     go_wp2_with (first
      | (go_at_call 255;refine(D.out b w3 WW).mono ?_;rintro e f ⟨rfl,o,s⟩;obtain⟨E,C⟩:=KF.out f o s;clear o s;obtain⟨Y,c1,f1,-⟩:=cz C.blk;replace C:=Lh C;replace E:=Lh E)
      | (at_lookup;refine cX rfl _ _ 125 99 rfl underlying125 _ ql L.me _ rfl (C.out.me.below ad) n rfl HN.out _ HL.out ?_))
     refine eN ?_;intro Q y;have P:zB f Q:=by rw[y];exact(Below.refl _ _).alloc (Nat.le_refl _) _
     have G:Hid (Blk Q f.heap.size (entC .zero) 99):=by rw[y];exact Blk.new _ _ _
     have B:=Lh (C.out.below P);have U:Hid (aa S [375] true w Q):=E.out.trans (aa.of_below (S:=S) P) (fun _ _ h=>h);have z4:w.heap.size<=f.heap.size:=E.out.size;clear y C E P Y c1 f1 y2 c2 f2 KF D;have Z:=fun d O ty=>dl.Hz B.out.me 125 99 underlying125 d O ty;have q0:=fun d O=>cell_regrown (B.out.blk.cell (i:=0) (v:=.int .i64 j.most) rfl) d O;have q1:=fun d O=>cell_regrown (B.out.blk.cell (i:=1) (v:=.map (some L.me)) rfl) d O;rw[List.length_map] at Z;replace Z:∀d O ty,(Builtin.len_ #[125] ty #[.map (some L.me)]).run prog (Go.Sort.grow (redrawn Q d) O)=.ok (.int .i64 j.ents.length) (Go.Sort.grow (redrawn Q d) O):=Z;refine wp_region_quiet_below (by kernel_rfl) (by kernel_rfl) ?_;repeat (go_big_quiet_step (fail))
     refine wpQuiet_nil ?_;intro wq N;have m:=ay N;replace B:=Lh (B.out.below m);replace G:=Lh (G.out.keep m);replace U:Hid (aa S [375] true w wq):=U.out.trans (aa.of_below (S:=S) m) (fun _ _ h=>h);clear N m Z q0 q1;have a9:1<=j.ents.length:=by have:=a4.most;omega
     obtain⟨ke,a7⟩:∃k,(elderF j.all).node=k:=⟨_,rfl⟩;have d7:=P6 a4 a9;rw[a7] at d7
     have c6:zX wq 256 #[.pointer (some ⟨g,0,none⟩)] (.int .i64 ke):=fun X hb=>by
      have:=Su (B.out.below hb) b3.out a9;have e2:(elderF (cB.all {j with lives:=ins j.lives n ⟨lb,false,x'⟩})).node=ke:=a7;rw[e2] at this;exact this
     have e8:f.heap.size<wq.heap.size:=G.out.lt;obtain⟨y3,c3,f3,-⟩:=cz B.out.blk;have d5:=Lh a7;clear a7 a9;go_wp2_with fail
     go_region_held3 (fun w'=>w'.cell? ⟨g,1,none⟩=some (.map (some L.me))) (go_simp)
      (first|(go_at_call 256;refine(c6.out _ ad).mono ?_;rintro e w5 ⟨rfl,c5⟩;have b8:=c5.size;(try simp at b8);have d3:=bq c5 (g);have a2:zB wq w5:=ad;have F:=Lh (B.out.below a2);have b5:=Lh (G.out.keep a2);obtain⟨w6,b0,b7,V⟩:=dl.K8 F.out.me 125 99 underlying125 ke (by omega) 0;have y6:=(V.blk F.out.blk (Ne.symm (F.out.me.ne F.out.blk))).cell (i:=1) (v:=.map (some L.me)) rfl))
     have T6:=Lh (F.out.EG V (es:=del j.ents ke) (by rw[I1] at b7;exact b7));have W:=Lh (V.blk b5.out (Ne.symm (F.out.me.ne b5.out)));have d0:Hid (aa S [375] true w w6):=(U.out.trans (aa.of_below (S:=S) a2) (fun _ _ h=>h)).trans (bg.cU V (.inl ⟨F.out.sm,OfT.map F.out.me⟩)) (fun _ _ h=>h);have z6:f.heap.size<=w6.heap.size:=by have:=V.size;have:=a2.size;omega
     clear B G U F b5 b7 V b0 a2 y3 c3 f3 y6 c6;replace W:Hid (Blk w6 f.heap.size (entC ⟨0,0,0,false,⟨0,0,0,0,0⟩,0⟩) 99):=W;obtain⟨y3,c3,f3,-⟩:=cz W.out;go_wp2_with fail;refine eN ?_;intro u5 z;have XE:Hid (Blk u5 f.heap.size (entC ⟨n,boot,q,false,⟨0,0,0,0,0⟩,0⟩) 99):=by rw[z];have XX:=W.out;exact(by apply Blk.of_eq;(focus (repeat (first|with_reducible exact XX|with_reducible apply Blk.drew|with_reducible apply blk_drewN|with_reducible apply Blk.alloc|with_reducible apply Blk.ab)));first|rfl|(simp;done))
     have A:ah f.heap.size w6 u5:=by rw[z];exact(show ah _ _ _ from dY)
     have a:=Lh (T6.out.only A W.out (by decide) (by decide));have I:Hid (aa S [375] true w u5):=bg.gZ d0.out A (.inr z4);clear z A T6 d0 W y3 c3 f3;have d6:(del j.ents ke).length<=64:=Nat.le_trans (List.length_filter_le _ _) a3;obtain⟨w9,a0,M,J⟩:=a.out.store n HN.out d6 ⟨n,boot,q,false,⟨0,0,0,0,0⟩,0⟩;obtain⟨Y,c1,f1,-⟩:=cz a.out.blk;have r3:=XE.out.row?_all 10 rfl;have RT:=Lh J;have RO:Hid (aa S [375] true w w9):=I.out.trans (bg.cU M (.inl ⟨a.out.sm,OfT.map a.out.me⟩)) (fun _ _ h=>h);clear J M a I;go_region
     go_wp2_with fail;go_ret;rw[d5.out];exact⟨rfl,RO.out,_,RT.out⟩
    ·rw[if_neg a1] at K;injection K with EQ1 EQ2
     subst EQ1;subst EQ2
     go_wp2_with (first
      | (go_at_call 255;refine(D.out b w3 WW).mono ?_;rintro e f ⟨rfl,o,s⟩;obtain⟨E,C⟩:=KF.out f o s;clear o s;obtain⟨Y,c1,f1,-⟩:=cz C.blk;replace C:=Lh C;replace E:=Lh E)
      | (at_lookup;refine cX rfl _ _ 125 99 rfl underlying125 _ ql L.me _ rfl (C.out.me.below ad) n rfl HN.out _ HL.out ?_))
     refine eN ?_;intro Q y;have P:zB f Q:=by rw[y];exact(Below.refl _ _).alloc (Nat.le_refl _) _
     have G:Hid (Blk Q f.heap.size (entC .zero) 99):=by rw[y];exact Blk.new _ _ _
     have B:=Lh (C.out.below P);have U:Hid (aa S [375] true w Q):=E.out.trans (aa.of_below (S:=S) P) (fun _ _ h=>h);have z4:w.heap.size<=f.heap.size:=E.out.size;clear y C E P Y c1 f1 y2 c2 f2 KF D;have Z:=fun d O ty=>dl.Hz B.out.me 125 99 underlying125 d O ty;have q0:=fun d O=>cell_regrown (B.out.blk.cell (i:=0) (v:=.int .i64 j.most) rfl) d O;have q1:=fun d O=>cell_regrown (B.out.blk.cell (i:=1) (v:=.map (some L.me)) rfl) d O;rw[List.length_map] at Z;replace Z:∀d O ty,(Builtin.len_ #[125] ty #[.map (some L.me)]).run prog (Go.Sort.grow (redrawn Q d) O)=.ok (.int .i64 j.ents.length) (Go.Sort.grow (redrawn Q d) O):=Z;refine wp_region_quiet_below (by kernel_rfl) (by kernel_rfl) ?_;repeat (go_big_quiet_step (fail))
     refine wpQuiet_nil ?_;intro wq N;have m:=ay N;replace B:=Lh (B.out.below m);replace G:=Lh (G.out.keep m);replace U:Hid (aa S [375] true w wq):=U.out.trans (aa.of_below (S:=S) m) (fun _ _ h=>h);clear N m Z q0 q1;obtain⟨y3,c3,f3,-⟩:=cz G.out;go_wp2_with fail;refine eN ?_;intro u5 z;have XE:Hid (Blk u5 f.heap.size (entC ⟨n,boot,q,false,⟨0,0,0,0,0⟩,0⟩) 99):=by rw[z];have XX:=G.out;exact(by apply Blk.of_eq;(focus (repeat (first|with_reducible exact XX|with_reducible apply Blk.drew|with_reducible apply blk_drewN|with_reducible apply Blk.alloc|with_reducible apply Blk.ab)));first|rfl|(simp;done))
     have A:ah f.heap.size wq u5:=by rw[z];exact(show ah _ _ _ from dY)
     have a:=Lh (B.out.only A G.out (by decide) (by decide));have I:Hid (aa S [375] true w u5):=bg.gZ U.out A (.inr z4);clear z A B U G y3 c3 f3;obtain⟨w9,a0,M,J⟩:=a.out.store n HN.out (by exact a3) ⟨n,boot,q,false,⟨0,0,0,0,0⟩,0⟩;obtain⟨Y,c1,f1,-⟩:=cz a.out.blk;have r3:=XE.out.row?_all 10 rfl;have RT:=Lh J;have RO:Hid (aa S [375] true w w9):=I.out.trans (bg.cU M (.inl ⟨a.out.sm,OfT.map a.out.me⟩)) (fun _ _ h=>h);clear J M a I;go_region
     go_wp2_with fail;go_ret;exact⟨rfl,RO.out,_,RT.out⟩
  ·rw[if_pos b4] at K;injection K with EQ1 EQ2
   subst EQ1;subst EQ2;have e7:(kq==0)=false:=by simp[b4]
   go_wp2_with (go_at_call 255;refine(D.out b w3 WW).mono ?_;rintro e f ⟨rfl,o,s⟩;obtain⟨E,C⟩:=KF.out f o s)
   go_ret;exact⟨rfl,E,_,C⟩
end
end Go.Proofs.YtechbdnhalmobaaGreatDoor
