/- Walks. -/
namespace Go.Proofs.YtechbdnhalmobaaGreatDoor
set_option linter.unusedSimpArgs false
set_option linter.unusedVariables false
def wdn(N i:Nat):Nat:=N/2^(64*i)%2^64
def wd(N i:Nat):Int:=(wdn N i:Int)
theorem bB(N i:Nat):wdn N i<18446744073709551616:=by
 unfold wdn;exact Nat.mod_lt _ (by decide)
theorem fu(N i:Nat):0≤wd N i:=Int.natCast_nonneg _
theorem tN(N i:Nat):wd N i<18446744073709551616:=by
 have:=bB N i;unfold wd;omega
theorem oK(i:Nat):wd 0 i=0:=by simp [wd,wdn]
theorem pW(i:Nat):wdn 0 i=0:=by simp [wdn]
theorem oJ(N n i:Nat)(h:i<n):wdn (N%2^(64*n)) i=wdn N i:=by
 unfold wdn;rw[show 64*n=64*i+64*(n-i) by omega,Nat.pow_add,Nat.mod_mul_right_div_self];rw[show 64*(n-i)=64+64*(n-i-1) by omega,Nat.pow_add,Nat.mod_mul_right_mod]
theorem CZ(N n i:Nat)(h:i<n):wd (N%2^(64*n)) i=wd N i:=by unfold wd;rw [oJ N n i h]
theorem cj(N i:Nat):N%2^(64*(i+1))=N%2^(64*i)+2^(64*i)*wdn N i:=by
 unfold wdn;rw[show 64*(i+1)=64*i+64 by omega,Nat.pow_add,Nat.mod_mul]
theorem cr(N i:Nat):N/2^(64*i)=wdn N i+18446744073709551616*(N/2^(64*(i+1))):=by
 unfold wdn;rw[show 64*(i+1)=64*i+64 by omega,Nat.pow_add,← Nat.div_div_eq_div_mul];have:=Nat.mod_add_div (N/2^(64*i)) (2^64);exact this.symm
theorem wu(n:Nat):∀N M:Nat,N<2^(64*n)→M<2^(64*n)→(∀i,i<n→wdn N i=wdn M i)→N=M:=by
 intro N M d c h
 have a:∀k,k≤n→N%2^(64*k)=M%2^(64*k):=by
  intro k;induction k with
  | zero=>intro _;simp[Nat.mod_one]
  | succ k b=>intro e;rw[cj,cj,b (by omega),h k (by omega)]
 have:=a n (Nat.le_refl n);rwa [Nat.mod_eq_of_lt d,Nat.mod_eq_of_lt c] at this
def gH(N M i:Nat):Int:=(((N%2^(64*i)+M%2^(64*i))/2^(64*i):Nat):Int)
theorem wG(N M:Nat):gH N M 0=0:=by unfold gH;simp [Nat.mod_one]
theorem rC(N M i:Nat):0≤gH N M i:=Int.natCast_nonneg _
theorem BV(N M i:Nat):gH N M i≤1:=by
 unfold gH;have h:=Nat.two_pow_pos (64*i);have b:=Nat.mod_lt N h;have a:=Nat.mod_lt M h
 have:(N%2^(64*i)+M%2^(64*i))/2^(64*i)<2:=by
  rw[Nat.div_lt_iff_lt_mul h];omega
 omega
theorem pO(N M p:Nat)(a:0<p):(N+M)/p%18446744073709551616=(N/p%18446744073709551616+M/p%18446744073709551616+(N%p+M%p)/p)%18446744073709551616:=by
 have h:(N+M)/p=N/p+M/p+(N%p+M%p)/p:=by
  rw[Nat.add_div a];have d:=Nat.mod_lt N a;have c:=Nat.mod_lt M a;split
  ·rename_i b
   have:(N%p+M%p)/p=1:=by
    apply Nat.div_eq_of_lt_le<;>omega
   omega
  ·rename_i b;have:(N%p+M%p)/p=0:=Nat.div_eq_of_lt (by omega);omega
 rw[h];omega
theorem zE(N M i:Nat):(wd N i+wd M i+gH N M i)%18446744073709551616=wd (N+M) i:=by
 unfold wd wdn gH;have:=pO N M (2^(64*i)) (Nat.two_pow_pos _);have e:(2:Nat)^64=18446744073709551616:=rfl;rw[e];omega
theorem nc(a b x y p:Nat)(c:0<p):((a+p*x)+(b+p*y))/(p*18446744073709551616)=(x+y+(a+b)/p)/18446744073709551616:=by
 rw[← Nat.div_div_eq_div_mul]
 have:((a+p*x)+(b+p*y))/p=(a+b)/p+(x+y):=by
  rw[show(a+p*x)+(b+p*y)=(a+b)+p*(x+y) by rw[Nat.mul_add];omega];rw[Nat.add_mul_div_left _ _ c]
 rw[this];congr 1;omega
theorem bz(i:Nat):(2:Nat)^(64*(i+1))=2^(64*i)*18446744073709551616:=by
 rw[show 64*(i+1)=64*i+64 by omega,Nat.pow_add]
theorem wH(N M i:Nat):(wd N i+wd M i+gH N M i)/18446744073709551616=gH N M (i+1):=by
 have h:=nc (N%2^(64*i)) (M%2^(64*i)) (wdn N i) (wdn M i) (2^(64*i)) (Nat.two_pow_pos _);unfold wd gH;rw[cj N i,cj M i,bz,h];omega
def jq(N M i:Nat):Int:=if N%2^(64*i)<M%2^(64*i) then 1 else 0
theorem wI(N M:Nat):jq N M 0=0:=by unfold jq;simp [Nat.mod_one]
theorem rD(N M i:Nat):0≤jq N M i:=by unfold jq;split<;>decide
theorem BW(N M i:Nat):jq N M i≤1:=by unfold jq;split<;>decide
theorem oP(N M p:Nat)(a:0<p)(b:M≤N):(N-M)/p+M/p+(if N%p<M%p then 1 else 0)=N/p:=by
 have n:=Nat.mod_lt N a;have g:=Nat.mod_lt M a;have i:=Nat.div_add_mod N p;have k:=Nat.div_add_mod M p;have f:M/p≤N/p:=Nat.div_le_div_right b;generalize o:N/p=A at *;generalize l:M/p=Bq at *;generalize m:N%p=r at *;generalize j:M%p=s at *;split
 ·rename_i c
  have e:Bq<A:=by
   rcases Nat.lt_or_ge Bq A with h|h
   ·exact h
   ·have:A=Bq:=by omega
    subst this;omega
  obtain⟨d,rfl⟩:=Nat.exists_eq_add_of_lt e
  have:N-M=(p+r-s)+p*d:=by
   have:p*(Bq+d+1)=p*Bq+p*d+p:=by rw[Nat.mul_add,Nat.mul_add,Nat.mul_one]
   omega
  rw[this,Nat.add_mul_div_left _ _ a,Nat.div_eq_of_lt (by omega)];omega
 ·rename_i c;obtain⟨d,rfl⟩:=Nat.exists_eq_add_of_le f
  have:N-M=(r-s)+p*d:=by
   have:p*(Bq+d)=p*Bq+p*d:=by rw[Nat.mul_add]
   omega
  rw[this,Nat.add_mul_div_left _ _ a,Nat.div_eq_of_lt (by omega)];omega
theorem xf(N M i:Nat)(a:M≤N):(wd N i-wd M i-jq N M i)%18446744073709551616=wd (N-M) i:=by
 have h:=oP N M (2^(64*i)) (Nat.two_pow_pos _) a;have e:(2:Nat)^64=18446744073709551616:=rfl;unfold wd wdn jq;rw[e];split at h<;>rename_i b<;>simp only[b,if_true,if_false]<;>omega
theorem wJ(N M i:Nat):(if wd N i<wd M i+jq N M i then (1:Int) else 0)=jq N M (i+1):=by
 have e:=Nat.two_pow_pos (64*i);have l:=Nat.mod_lt N e;have k:=Nat.mod_lt M e;unfold jq wd;rw[cj N i,cj M i];generalize wdn N i=x;generalize wdn M i=y;generalize N%2^(64*i)=r at *;generalize M%2^(64*i)=s at *;generalize 2^(64*i)=p at *
 have c:(r+p*x<s+p*y)↔(x<y∨(x=y∧r<s)):=by
  constructor
  ·intro h;rcases Nat.lt_trichotomy x y with a|a|a
   ·exact .inl a
   ·subst a;exact .inr ⟨rfl,by omega⟩
   ·obtain⟨d,rfl⟩:=Nat.exists_eq_add_of_lt a;have:p*(y+d+1)=p*y+p*d+p:=by rw[Nat.mul_add,Nat.mul_add,Nat.mul_one]
    omega
  ·rintro(h|⟨rfl,h⟩)
   ·obtain⟨d,rfl⟩:=Nat.exists_eq_add_of_lt h;have:p*(x+d+1)=p*x+p*d+p:=by rw[Nat.mul_add,Nat.mul_add,Nat.mul_one]
    omega
   ·omega
 by_cases b:r+p*x<s+p*y
 ·rw[if_pos b];rw[c] at b;rcases b with h|⟨h,g⟩
  ·by_cases a:r<s<;>simp only[a,if_true,if_false]<;>rw[if_pos (by omega)]
  ·simp only[g,if_true];rw[if_pos (by omega)]
 ·rw[if_neg b];rw[c] at b;by_cases a:r<s
  ·simp only[a,if_true];rw[if_neg];intro f;apply b;by_cases j:x<y
   ·exact .inl j
   ·exact .inr ⟨by omega,a⟩
  ·simp only[a,if_false];rw[if_neg];intro f;apply b;exact .inl (by omega)
theorem dL(a b:Nat)(h:a≤b):(2:Nat)^a≤2^b:=Nat.pow_le_pow_right (by decide) h
def bl(N:Nat):Nat:=if N=0 then 0 else Nat.log2 N+1
theorem uO:bl 0=0:=rfl
theorem mU(N:Nat):N<2^bl N:=by
 unfold bl;split
 ·rename_i h;subst h;simp
 ·exact Nat.lt_log2_self
theorem d7(N:Nat)(h:N≠0):2^(bl N-1)≤N:=by
 unfold bl;rw[if_neg h];exact Nat.log2_self_le h
theorem cE(N k:Nat):bl N≤k↔N<2^k:=by
 constructor
 ·intro h;exact Nat.lt_of_lt_of_le (mU N) (Nat.pow_le_pow_right (by decide) h)
 ·intro h;by_cases a:N=0
  ·subst a;simp[bl]
  ·have c:=d7 N a;have b:2^(bl N-1)<2^k:=Nat.lt_of_le_of_lt c h;have:=(Nat.pow_lt_pow_iff_right (by decide:1<2)).1 b;omega
theorem iq(N k:Nat)(c:N<2^k)(b:k=0∨2^(k-1)≤N):bl N=k:=by
 have a:=(cE N k).2 c;rcases b with rfl|b
 ·omega
 ·by_cases h:bl N≤k-1
  ·have:=(cE N (k-1)).1 h;by_cases d:k=0
   ·omega
   ·omega
  ·omega
theorem iL(N:Nat)(h:N≠0):0<bl N:=by unfold bl;rw [if_neg h];omega
def np(N:Nat):Nat:=(bl N+63)/64
theorem bX(N n:Nat):np N≤n↔N<2^(64*n):=by
 rw[← cE];unfold np;omega
theorem kn(N:Nat):N<2^(64*np N):=(bX N _).1 (Nat.le_refl _)
theorem nQ(N n:Nat)(c:N<2^(64*n))(b:n=0∨2^(64*(n-1))≤N):np N=n:=by
 have a:=(bX N n).2 c;rcases b with rfl|b
 ·omega
 ·by_cases h:np N≤n-1
  ·have:=(bX N (n-1)).1 h;by_cases d:n=0<;>omega
  ·omega
theorem kl(N:Nat):np N=0↔N=0:=by
 constructor
 ·intro h;have:=kn N;rw[h] at this;simpa using this
 ·rintro rfl;rfl
theorem su(N:Nat)(h:N≠0):2^(64*(np N-1))≤N:=by
 rcases Nat.lt_or_ge N (2^(64*(np N-1))) with a|a
 ·have:=(bX N (np N-1)).2 a;have:np N≠0:=fun b=>h ((kl N).1 b);omega
 ·exact a
theorem cg(N k:Nat)(h:N<2^(64*(k+1)))(a:wdn N k=0):N<2^(64*k):=by
 have c:=cr N k;have:N/2^(64*(k+1))=0:=Nat.div_eq_of_lt h;rw[this,a] at c;have b:N/2^(64*k)=0:=by omega
 exact(Nat.div_eq_zero_iff_lt (Nat.two_pow_pos _)).1 b
theorem fv(N k:Nat)(a:wdn N k≠0):2^(64*k)≤N:=by
 rcases Nat.lt_or_ge N (2^(64*k)) with h|h
 ·exfalso;apply a;unfold wdn;rw[Nat.div_eq_of_lt h]
 ·exact h
theorem oI(N k:Nat)(h:N<2^(64*(k+1))):wdn N k=N/2^(64*k):=by
 have a:=cr N k;have:N/2^(64*(k+1))=0:=Nat.div_eq_of_lt h;rw[this] at a;omega
theorem En(N k:Nat)(h:N<2^(64*(k+1)))(b:wdn N k≠0):bl N=64*k+bl (wdn N k):=by
 have c:=oI N k h;have d:=iL _ b;apply iq
 ·rw[Nat.pow_add];have a:=mU (wdn N k);rw[c] at a ⊢;rw[Nat.mul_comm];exact(Nat.div_lt_iff_lt_mul (Nat.two_pow_pos _)).1 a
 ·right;rw[show 64*k+bl (wdn N k)-1=64*k+(bl (wdn N k)-1) by omega,Nat.pow_add,Nat.mul_comm];have a:=d7 _ b;rw[c] at a ⊢;exact(Nat.le_div_iff_mul_le (Nat.two_pow_pos _)).1 a
def eE(N M:Nat):Int:=if N<M then -1 else if M<N then 1 else 0
theorem my(N M k:Nat)(h:N/2^(64*(k+1))=M/2^(64*(k+1)))(b:wd N k<wd M k):N<M:=by
 have e:=cr N k;have d:=cr M k;have:N/2^(64*k)<M/2^(64*k):=by unfold wd at b;omega
 rcases Nat.lt_or_ge N M with a|a
 ·exact a
 ·have:=Nat.div_le_div_right (c:=2^(64*k)) a;omega
theorem uV(N M k:Nat)(h:N/2^(64*(k+1))=M/2^(64*(k+1)))(b:¬wd N k<wd M k)(a:¬wd M k<wd N k):N/2^(64*k)=M/2^(64*k):=by
 rw[cr N k,cr M k,h];unfold wd at *;omega
def bZ(A k v:Nat):Nat:=A-wdn A k*2^(64*k)+v*2^(64*k)
theorem cT(A k:Nat):wdn A k*2^(64*k)≤A:=by
 unfold wdn
 calc A/2^(64*k)%2^64*2^(64*k)≤A/2^(64*k)*2^(64*k):=Nat.mul_le_mul_right _ (Nat.mod_le _ _)
  _≤A:=Nat.div_mul_le_self _ _
theorem xh(A k:Nat):A=A%2^(64*k)+2^(64*k)*wdn A k+2^(64*(k+1))*(A/2^(64*(k+1))):=by
 have h:=Nat.mod_add_div A (2^(64*(k+1)));rw[cj] at h;exact h.symm
theorem iA(A k v:Nat):bZ A k v=A%2^(64*k)+2^(64*k)*v+2^(64*(k+1))*(A/2^(64*(k+1))):=by
 have h:=xh A k;unfold bZ;rw[Nat.mul_comm (wdn A k),Nat.mul_comm v];have:=cT A k;rw[Nat.mul_comm] at this;omega
theorem qK(A k v:Nat):bZ A k v%2^(64*k)=A%2^(64*k):=by
 rw[iA,bz,Nat.mul_assoc,Nat.add_assoc,← Nat.mul_add,Nat.add_mul_mod_self_left,Nat.mod_mod]
theorem mQ(A k v:Nat)(b:v<18446744073709551616):bZ A k v/2^(64*(k+1))=A/2^(64*(k+1)):=by
 rw[iA,Nat.add_mul_div_left _ _ (Nat.two_pow_pos _)];rw[Nat.div_eq_of_lt,Nat.zero_add];have c:=Nat.mod_lt A (Nat.two_pow_pos (64*k));rw[bz];generalize 2^(64*k)=p at *;have a:p*v≤p*18446744073709551615:=Nat.mul_le_mul_left _ (by omega);omega
theorem mW(A k v:Nat)(b:v<18446744073709551616):wdn (bZ A k v) k=v:=by
 have c:=xh (bZ A k v) k;rw[qK,mQ A k v b] at c;have d:=iA A k v;have a:=Nat.two_pow_pos (64*k);have:2^(64*k)*wdn (bZ A k v) k=2^(64*k)*v:=by omega
 exact Nat.eq_of_mul_eq_mul_left a this
theorem lH(A k v j:Nat)(b:v<18446744073709551616)(a:j≠k):wdn (bZ A k v) j=wdn A j:=by
 rcases Nat.lt_or_gt_of_ne a with h|h
 ·rw[← oJ (bZ A k v) k j h,qK,oJ _ _ _ h]
 ·obtain⟨d,rfl⟩:=Nat.exists_eq_add_of_lt h
  have e:∀X:Nat,wdn X (k+d+1)=wdn (X/2^(64*(k+1))) d:=fun X=>by
   unfold wdn;rw[Nat.div_div_eq_div_mul,← Nat.pow_add];congr 3;omega
  rw[e,e,mQ A k v b]
theorem iV(A k v n:Nat)(b:v<18446744073709551616)(f:k<n)(a:A<2^(64*n)):bZ A k v<2^(64*n):=by
 have c:=mQ A k v b
 have e:∀X:Nat,X/2^(64*n)=X/2^(64*(k+1))/2^(64*(n-k-1)):=fun X=>by
  rw[Nat.div_div_eq_div_mul,← Nat.pow_add];congr 2;omega
 have d:bZ A k v/2^(64*n)=0:=by
  rw[e,c,← e];exact Nat.div_eq_of_lt a
 exact(Nat.div_eq_zero_iff_lt (Nat.two_pow_pos _)).1 d
theorem fZ(A k v c:Nat)(h:wdn A k+c=v):bZ A k v=A+c*2^(64*k):=by
 subst h;have:=cT A k;unfold bZ;rw[Nat.add_mul];omega
theorem co(A k n:Nat)(h:A<2^(64*n))(a:n≤k):wdn A k=0:=by
 unfold wdn;rw[Nat.div_eq_of_lt];exact Nat.lt_of_lt_of_le h (Nat.pow_le_pow_right (by decide) (by omega))
theorem C9(U k:Nat)(h:U<2^(64*(k+2))):U/2^(64*k)=wdn U (k+1)*18446744073709551616+wdn U k:=by
 rw[cr U k,← oI U (k+1) h];omega
theorem Gm(U k:Nat)(h:U<2^(64*(k+3))):U/2^(64*k)=(wdn U (k+2)*18446744073709551616+wdn U (k+1))*18446744073709551616+wdn U k:=by
 rw[cr U k,C9 U (k+1) h,show k+1+1=k+2 from rfl];omega
theorem est(U W P v:Nat)(b:0<v)(a:0<P)(h:v*P≤W):U/W≤U/P/v:=by
 rw[Nat.div_div_eq_div_mul,Nat.mul_comm P v];exact Nat.div_le_div_left h (Nat.mul_pos b a)
theorem Gx(U W k a:Nat)(b:0<a)(c:U<2^(64*(k+2)))(h:a*2^(64*k)≤W):U/W≤(wdn U (k+1)*18446744073709551616+wdn U k)/a:=by
 rw[← C9 U k c];exact est U W _ a b (Nat.two_pow_pos _) h
theorem yG(d a b l u B:Nat)(c:0<a*B+b)(h:l*B+u<d*b):((d*a+l)*B+u)/(a*B+b)<d:=by
 rw[Nat.div_lt_iff_lt_mul c];have e:d*(a*B+b)=d*a*B+d*b:=by rw[Nat.mul_add,Nat.mul_assoc]
 have f:(d*a+l)*B=d*a*B+l*B:=Nat.add_mul _ _ _;omega
theorem Gw(U W k a b d l:Nat)(j:0<a)(g:U<2^(64*(k+3)))(h:(a*18446744073709551616+b)*2^(64*k)≤W)(i:d*a+l=wdn U (k+2)*18446744073709551616+wdn U (k+1))(c:l*18446744073709551616+wdn U k<d*b):U/W<d:=by
 have e:=est U W _ (a*18446744073709551616+b) (by omega) (Nat.two_pow_pos (64*k)) h;rw[Gm U k g,← i] at e;have f:=yG d a b l (wdn U k) 18446744073709551616 (by omega) c;exact Nat.lt_of_le_of_lt e f
theorem Ac(V n j:Nat)(a:1≤n):wdn V (n-1)*2^(64*(j+n-1))≤V*2^(64*j):=by
 rw[show 64*(j+n-1)=64*(n-1)+64*j by omega,Nat.pow_add,← Nat.mul_assoc];exact Nat.mul_le_mul_right _ (cT V (n-1))
theorem zY(V n j:Nat)(b:2≤n)(a:V<2^(64*n)):(wdn V (n-1)*18446744073709551616+wdn V (n-2))*2^(64*(j+n-2))≤V*2^(64*j):=by
 rw[show 64*(j+n-2)=64*(n-2)+64*j by omega,Nat.pow_add,← Nat.mul_assoc];refine Nat.mul_le_mul_right _ ?_;have h:=C9 V (n-2) (by rw[show n-2+2=n by omega];exact a);rw[show n-2+1=n-1 by omega] at h;rw[← h];exact Nat.div_mul_le_self _ _
theorem Bh(A x V U c bo i j t a d b:Nat)(h:A+x*(V%2^(64*i))*2^(64*j)=U+(bo+c)*2^(64*(i+j)))(l:x*wdn V i+c=d*18446744073709551616+a)(m:t+a+bo=wdn A (i+j)+b*18446744073709551616):bZ A (i+j) t+x*(V%2^(64*(i+1)))*2^(64*j)=U+(b+d)*2^(64*(i+1+j)):=by
 have g:=cT A (i+j);rw[cj V i,show i+1+j=(i+j)+1 by omega,bz (i+j)]
 have f:x*(V%2^(64*i)+2^(64*i)*wdn V i)*2^(64*j)=x*(V%2^(64*i))*2^(64*j)+x*wdn V i*2^(64*(i+j)):=by
  rw[Nat.mul_add,Nat.add_mul,show 64*(i+j)=64*i+64*j by omega,Nat.pow_add];congr 1
  rw[← Nat.mul_assoc,← Nat.mul_assoc,Nat.mul_assoc x,Nat.mul_comm (2^(64*i)),← Nat.mul_assoc]
 rw[f];unfold bZ;generalize 2^(64*(i+j))=p at *;have n:(x*wdn V i+c)*p=(d*18446744073709551616+a)*p:=by rw[l]
 have k:(t+a+bo)*p=(wdn A (i+j)+b*18446744073709551616)*p:=by rw[m]
 simp only[Nat.add_mul] at n k h ⊢
 have e:∀y:Nat,y*(p*18446744073709551616)=y*18446744073709551616*p:=fun y=>by
  rw[Nat.mul_comm p,← Nat.mul_assoc]
 rw[e,e];omega
theorem Bj(A X U c bo k t a:Nat)(h:A+X=U+(bo+c)*2^(64*k))(f:t+c+bo=wdn A k+a*18446744073709551616):bZ A k t+X=U+a*2^(64*(k+1)):=by
 have e:=cT A k;rw[bz k];unfold bZ;generalize 2^(64*k)=p at *;have d:(t+c+bo)*p=(wdn A k+a*18446744073709551616)*p:=by rw[f]
 simp only[Nat.add_mul] at d h ⊢
 have b:∀y:Nat,y*(p*18446744073709551616)=y*18446744073709551616*p:=fun y=>by
  rw[Nat.mul_comm p,← Nat.mul_assoc]
 rw[b];omega
theorem Co(A b V c i j t a:Nat)(h:A+c*2^(64*(i+j))=b+V%2^(64*i)*2^(64*j))(k:t+a*18446744073709551616=wdn A (i+j)+wdn V i+c):bZ A (i+j) t+a*2^(64*(i+1+j))=b+V%2^(64*(i+1))*2^(64*j):=by
 have g:=cT A (i+j);rw[cj V i,show i+1+j=(i+j)+1 by omega,bz (i+j)]
 have e:(V%2^(64*i)+2^(64*i)*wdn V i)*2^(64*j)=V%2^(64*i)*2^(64*j)+wdn V i*2^(64*(i+j)):=by
  rw[Nat.add_mul,show 64*(i+j)=64*i+64*j by omega,Nat.pow_add];congr 1
  rw[Nat.mul_comm (2^(64*i)),Nat.mul_assoc]
 rw[e];unfold bZ;generalize 2^(64*(i+j))=p at *;have f:(t+a*18446744073709551616)*p=(wdn A (i+j)+wdn V i+c)*p:=by rw[k]
 simp only[Nat.add_mul] at f h ⊢
 have d:∀y:Nat,y*(p*18446744073709551616)=y*18446744073709551616*p:=fun y=>by
  rw[Nat.mul_comm p,← Nat.mul_assoc]
 rw[d];omega
theorem Cv(A X c k t a:Nat)(h:A+c*2^(64*k)=X)(f:t+a*18446744073709551616=wdn A k+c):bZ A k t+a*2^(64*(k+1))=X:=by
 have e:=cT A k;rw[bz k];unfold bZ;generalize 2^(64*k)=p at *;have d:(t+a*18446744073709551616)*p=(wdn A k+c)*p:=by rw[f]
 simp only[Nat.add_mul] at d h ⊢
 have b:∀y:Nat,y*(p*18446744073709551616)=y*18446744073709551616*p:=fun y=>by
  rw[Nat.mul_comm p,← Nat.mul_assoc]
 rw[b];omega
theorem Cn(A a d W U bo c P:Nat)(g:0<d)(h:A+d*W=U+bo*P)(i:a+c*P=A+W)(b:c≤bo):a+(d-1)*W=U+(bo-c)*P:=by
 obtain⟨e,rfl⟩:∃e,d=e+1:=⟨d-1,by omega⟩;obtain⟨f,rfl⟩:∃f,bo=f+c:=⟨bo-c,by omega⟩;rw[Nat.add_sub_cancel,Nat.add_sub_cancel];simp only[Nat.add_mul,Nat.one_mul] at h ⊢;omega
theorem vb(A d W U P:Nat)(b:A<P)(a:0<W)(h:A+d*W=U+1*P):U/W<d:=by
 rw[Nat.div_lt_iff_lt_mul a];omega
theorem tD(A d W U:Nat)(b:0<W)(e:U/W≤d)(h:A+d*W=U):d=U/W∧A=U%W:=by
 have f:d≤U/W:=by rw[Nat.le_div_iff_mul_le b];omega
 have a:d=U/W:=by omega
 refine⟨a,?_⟩;have c:=Nat.div_add_mod U W;rw[← a,Nat.mul_comm] at c;omega
theorem rp(U V j:Nat)(a:0<V)(h:U<V*2^(64*(j+1))):U/(V*2^(64*j))<18446744073709551616:=by
 rw[Nat.div_lt_iff_lt_mul (Nat.mul_pos a (Nat.two_pow_pos _)),Nat.mul_comm,Nat.mul_assoc,← bz];exact h
theorem xG(N W:Nat):N/W=N/(W*18446744073709551616)*18446744073709551616+N%(W*18446744073709551616)/W:=by
 have h:=Nat.div_add_mod N (W*18446744073709551616);rcases Nat.eq_zero_or_pos W with rfl|a
 ·simp
 ·conv=>lhs;rw[← h]
  rw[Nat.mul_assoc,Nat.mul_add_div a];rw[Nat.mul_comm (18446744073709551616)]
theorem mc(a j d:Nat):bZ (a*2^(64*(j+1))) j d=(a*18446744073709551616+d)*2^(64*j):=by
 have b:wdn (a*2^(64*(j+1))) j+d=d:=by
  have:wdn (a*2^(64*(j+1))) j=0:=by
   unfold wdn;rw[bz,Nat.mul_comm (2^(64*j)),← Nat.mul_assoc,Nat.mul_div_cancel _ (Nat.two_pow_pos _)];exact Nat.mul_mod_left _ _
  omega
 rw[fZ _ _ _ _ b,bz,Nat.add_mul,Nat.mul_comm (2^(64*j)),← Nat.mul_assoc]
theorem vu(N V j d:Nat)(a:d=N%(V*2^(64*(j+1)))/(V*2^(64*j))):bZ (N/(V*2^(64*(j+1)))*2^(64*(j+1))) j d=N/(V*2^(64*j))*2^(64*j):=by
 rw[mc,xG N (V*2^(64*j)),Nat.mul_assoc V,← bz,a]
theorem se(N V j:Nat):N%(V*2^(64*(j+1)))%(V*2^(64*j))=N%(V*2^(64*j)):=by
 rw[bz,← Nat.mul_assoc,Nat.mod_mul_right_mod]
theorem vG(N b k:Nat)(a:0<b):((N/2^(64*(k+1))%b)*18446744073709551616+wdn N k)/b+N/2^(64*(k+1))/b*18446744073709551616=N/2^(64*k)/b ∧
  ((N/2^(64*(k+1))%b)*18446744073709551616+wdn N k)%b=N/2^(64*k)%b:=by
 rw[cr N k];generalize N/2^(64*(k+1))=x;generalize wdn N k=y;have h:=Nat.div_add_mod x b;generalize x/b=q at *;generalize x%b=r at *;subst h
 have e:y+18446744073709551616*(b*q+r)=(r*18446744073709551616+y)+b*(q*18446744073709551616):=by
  rw[Nat.mul_add,Nat.mul_left_comm,Nat.mul_comm 18446744073709551616 q];omega
 rw[e];exact⟨by rw[Nat.add_mul_div_left _ _ a],by rw[Nat.add_mul_mod_self_left]⟩
theorem Bc(N M m n s:Nat)(c:N<2^(64*m))(b:2^(64*(n-1))≤M)(d:1≤n)(a:n≤m):N*2^s<M*2^s*2^(64*(m-n+1)):=by
 rw[Nat.mul_right_comm];refine Nat.mul_lt_mul_of_pos_right (Nat.lt_of_lt_of_le c ?_) (Nat.two_pow_pos _);rw[show 64*m=64*(n-1)+64*(m-n+1) by omega,Nat.pow_add];exact Nat.mul_le_mul_right _ b
theorem jE(N M s:Nat):N*2^s%(M*2^s)/2^s=N%M:=by
 rw[Nat.mul_mod_mul_right,Nat.mul_div_cancel _ (Nat.two_pow_pos _)]
theorem jN(N M s:Nat):N*2^s/(M*2^s)=N/M:=Nat.mul_div_mul_right _ _ (Nat.two_pow_pos _)
theorem fz(a b r:Nat)(hb:b<2^r):(a*2^r)|||b=a*2^r+b:=by
 rw[Nat.mul_comm,Nat.two_pow_add_eq_or_of_lt hb]
theorem zW(N r:Nat):wdn (N*2^r) 0=wdn N 0*2^r%18446744073709551616:=by
 unfold wdn;simp only[Nat.mul_zero,Nat.pow_zero,Nat.div_one];rw[Nat.mul_mod];conv=>rhs;rw[Nat.mul_mod]
 simp
theorem CY(N r i:Nat)(n:r≤64):wdn (N*2^r) (i+1)=wdn N (i+1)*2^r%18446744073709551616+wdn N i/2^(64-r):=by
 have h:N*2^r/2^(64*(i+1))=N/2^(64*i)/2^(64-r):=by
  rw[Nat.div_div_eq_div_mul,← Nat.pow_add,show 64*(i+1)=r+(64*i+(64-r)) by omega,Nat.pow_add,Nat.mul_comm N,Nat.mul_div_mul_left _ _ (Nat.two_pow_pos _)]
 have e:=cr N i;have g:=cr N (i+1);have c:(18446744073709551616:Nat)=2^r*2^(64-r):=by rw[← Nat.pow_add,show r+(64-r)=64 by omega]
 have d:=bB N i;show N*2^r/2^(64*(i+1))%18446744073709551616=_;rw[h,e];generalize o:wdn N (i+1)=x at *;generalize wdn N i=y at *;rw[g];generalize N/2^(64*(i+1+1))=z
 have f:(y+18446744073709551616*(x+18446744073709551616*z))/2^(64-r)=y/2^(64-r)+x*2^r+18446744073709551616*(z*2^r):=by
  have:y+18446744073709551616*(x+18446744073709551616*z)=y+2^(64-r)*(x*2^r+18446744073709551616*(z*2^r)):=by
   generalize 2^r=P at *;generalize 2^(64-r)=Q at *;generalize 18446744073709551616=B at *;subst c;grind
  rw[this,Nat.add_mul_div_left _ _ (Nat.two_pow_pos _)];omega
 rw[f,Nat.add_mul_mod_self_left]
 have m:y/2^(64-r)<2^r:=by
  rw[Nat.div_lt_iff_lt_mul (Nat.two_pow_pos _),← c];exact d
 have l:x*2^r%18446744073709551616=(x%2^(64-r))*2^r:=by
  rw[c,Nat.mul_comm (2^r) (2^(64-r)),Nat.mul_mod_mul_right]
 have j:(x%2^(64-r))*2^r+2^r≤18446744073709551616:=by
  have:=Nat.mod_lt x (Nat.two_pow_pos (64-r))
  calc (x%2^(64-r))*2^r+2^r=(x%2^(64-r)+1)*2^r:=by rw[Nat.add_mul,Nat.one_mul]
   _≤2^(64-r)*2^r:=Nat.mul_le_mul_right _ this
   _=18446744073709551616:=by rw[Nat.mul_comm];exact c.symm
 have k:=Nat.div_add_mod (x*2^r) 18446744073709551616;rw[← l] at j;generalize y/2^(64-r)=a at *;generalize 2^r=P at *;generalize x*P=b at *;omega
theorem uX(N r i:Nat)(b:r≤64):(wdn N (i+1)*2^r%18446744073709551616)|||(wdn N i/2^(64-r))=wdn (N*2^r) (i+1):=by
 have a:(18446744073709551616:Nat)=2^(64-r)*2^r:=by rw[← Nat.pow_add,show(64-r)+r=64 by omega]
 rw[CY N r i b];conv=>lhs;rw[a,Nat.mul_mod_mul_right]
 rw[fz]
 ·rw[← Nat.mul_mod_mul_right,← a]
 ·rw[Nat.div_lt_iff_lt_mul (Nat.two_pow_pos _),Nat.mul_comm,← a];exact bB N i
theorem jw(N d i:Nat):wdn (N*2^(64*d)) (i+d)=wdn N i:=by
 unfold wdn;rw[show 64*(i+d)=64*i+64*d by omega,Nat.pow_add,Nat.mul_div_mul_right _ _ (Nat.two_pow_pos _)]
theorem iO(N d i:Nat):wdn (N/2^(64*d)) i=wdn N (i+d):=by
 unfold wdn;rw[Nat.div_div_eq_div_mul,← Nat.pow_add,show 64*d+64*i=64*(i+d) by omega]
theorem pY(N r i:Nat)(l:r≤64):wdn (N/2^r) i=wdn N i/2^r+wdn N (i+1)*2^(64-r)%18446744073709551616:=by
 have c:(18446744073709551616:Nat)=2^r*2^(64-r):=by rw[← Nat.pow_add,show r+(64-r)=64 by omega]
 show N/2^r/2^(64*i)%18446744073709551616=_;have e:N/2^r/2^(64*i)=N/2^(64*i)/2^r:=by rw[Nat.div_div_eq_div_mul,Nat.mul_comm,← Nat.div_div_eq_div_mul]
 rw[e,cr N i,cr N (i+1)];have d:=bB N i;generalize wdn N (i+1)=x;generalize wdn N i=y at *;generalize N/2^(64*(i+1+1))=z
 have f:(y+18446744073709551616*(x+18446744073709551616*z))/2^r=y/2^r+x*2^(64-r)+18446744073709551616*(z*2^(64-r)):=by
  have:y+18446744073709551616*(x+18446744073709551616*z)=y+2^r*(x*2^(64-r)+18446744073709551616*(z*2^(64-r))):=by
   generalize 2^r=P at *;generalize 2^(64-r)=Q at *;generalize 18446744073709551616=B at *;subst c;grind
  rw[this,Nat.add_mul_div_left _ _ (Nat.two_pow_pos _)];omega
 rw[f,Nat.add_mul_mod_self_left]
 have k:y/2^r<2^(64-r):=by
  rw[Nat.div_lt_iff_lt_mul (Nat.two_pow_pos _),Nat.mul_comm,← c];exact d
 have j:x*2^(64-r)%18446744073709551616=(x%2^r)*2^(64-r):=by
  rw[c,Nat.mul_mod_mul_right]
 have g:(x%2^r)*2^(64-r)+2^(64-r)≤18446744073709551616:=by
  have:=Nat.mod_lt x (Nat.two_pow_pos r)
  calc (x%2^r)*2^(64-r)+2^(64-r)=(x%2^r+1)*2^(64-r):=by rw[Nat.add_mul,Nat.one_mul]
   _≤2^r*2^(64-r):=Nat.mul_le_mul_right _ this
   _=18446744073709551616:=c.symm
 have h:=Nat.div_add_mod (x*2^(64-r)) 18446744073709551616;rw[← j] at g;generalize y/2^r=a at *;generalize 2^(64-r)=P at *;generalize x*P=b at *;omega
theorem pX(N r i:Nat)(b:r≤64):(wdn N i/2^r)|||(wdn N (i+1)*2^(64-r)%18446744073709551616)=wdn (N/2^r) i:=by
 have a:(18446744073709551616:Nat)=2^r*2^(64-r):=by rw[← Nat.pow_add,show r+(64-r)=64 by omega]
 rw[pY N r i b,Nat.or_comm];conv=>lhs;rw[a,Nat.mul_mod_mul_right]
 rw[fz]
 ·rw[← Nat.mul_mod_mul_right,← a,Nat.add_comm]
 ·rw[Nat.div_lt_iff_lt_mul (Nat.two_pow_pos _),Nat.mul_comm,← a];exact bB N i
theorem nI(M i:Nat):bZ (M/2^(64*(i+1))*2^(64*(i+1))) i (wdn M i)=M/2^(64*i)*2^(64*i):=by
 rw[mc];congr 1
 rw[cr M i];omega
theorem xC(N m:Nat):(N%2^(64*(m+1))≠0)↔(N%2^(64*m)≠0∨wdn N m≠0):=by
 rw[cj];have:=Nat.two_pow_pos (64*m);constructor
 ·intro h;by_cases b:N%2^(64*m)=0
  ·right;intro c;apply h;rw[b,c];rfl
  ·exact .inl b
 ·rintro(h|h) h0
  ·omega
  ·have d:2^(64*m)*wdn N m=0:=by omega
   rcases Nat.mul_eq_zero.1 d with a|a
   ·omega
   ·exact h a
theorem vr(N d r:Nat)(i:r≤64):(N%2^(64*d+r)≠0)↔(N%2^(64*d)≠0∨wdn N d*2^(64-r)%18446744073709551616≠0):=by
 have b:(18446744073709551616:Nat)=2^r*2^(64-r):=by rw[← Nat.pow_add,show r+(64-r)=64 by omega]
 have f:wdn N d*2^(64-r)%18446744073709551616=(N/2^(64*d)%2^r)*2^(64-r):=by
  rw[b,Nat.mul_mod_mul_right];congr 1
  show N/2^(64*d)%18446744073709551616%2^r=_;rw[b,Nat.mod_mul_right_mod]
 rw[f,Nat.pow_add,Nat.mod_mul];have:=Nat.two_pow_pos (64*d);have:=Nat.two_pow_pos (64-r);generalize N/2^(64*d)%2^r=x;constructor
 ·intro h;by_cases c:N%2^(64*d)=0
  ·right;intro e;apply h;rcases Nat.mul_eq_zero.1 e with a|a
   ·rw[c,a];rfl
   ·omega
  ·exact .inl c
 ·rintro(h|h) h0
  ·omega
  ·apply h;have g:2^(64*d)*x=0:=by omega
   rcases Nat.mul_eq_zero.1 g with a|a
   ·omega
   ·rw[a,Nat.zero_mul]
def rt:Nat→Nat
 | 0=>0
 | n+1=>if (rt n+1)*(rt n+1)≤n+1 then rt n+1 else rt n
theorem fJ(n:Nat):rt n*rt n≤n∧n<(rt n+1)*(rt n+1):=by
 induction n with
 | zero=>simp[rt]
 | succ n a=>
  unfold rt;split
  ·rename_i h;refine⟨h,?_⟩;have:(rt n+1+1)*(rt n+1+1)=(rt n+1)*(rt n+1)+2*rt n+3:=by grind
   omega
  ·exact⟨by omega,by omega⟩
theorem gP{a b:Nat}(h:a≤b):a*a≤b*b:=Nat.mul_le_mul h h
theorem jA{n r:Nat}(b:r*r≤n)(a:n<(r+1)*(r+1)):rt n=r:=by
 have:=fJ n;rcases Nat.lt_trichotomy (rt n) r with h|h|h
 ·have:=gP (show rt n+1≤r from h);omega
 ·exact h
 ·have:=gP (show r+1≤rt n from h);omega
theorem ko{N x:Nat}(b:0<x)(a:N<(x+1)*(x+1))(h:x≤(x+N/x)/2):rt N=x:=by
 refine jA ?_ a;exact(Nat.le_div_iff_mul_le b).1 (by omega)
theorem ku{N x:Nat}(b:0<x):N<((x+N/x)/2+1)*((x+N/x)/2+1):=by
 have i:N<(N/x+1)*x:=by
  have:=Nat.div_add_mod N x;have:=Nat.mod_lt N b;rw[Nat.add_mul,Nat.mul_comm (N/x),Nat.one_mul];omega
 generalize e:N/x=q at *;have c:x+q+1≤2*((x+q)/2+1):=by omega
 generalize (x+q)/2+1=y at *;have g:=gP c;have f:(2*y)*(2*y)=4*(y*y):=by grind
 have j:4*((q+1)*x)≤(x+q+1)*(x+q+1):=by
  rcases Nat.le_total x (q+1) with h|h
  ·obtain⟨d,a⟩:=Nat.exists_eq_add_of_le h;have:x+q+1=x+(x+d):=by omega
   rw[this,a];grind
  ·obtain⟨d,a⟩:=Nat.exists_eq_add_of_le h;have:x+q+1=(q+1+d)+(q+1):=by omega
   rw[this,a];grind
 omega
theorem i7(N k:Nat)(h:bl N≤2*k):N<(2^k+1)*(2^k+1):=by
 have a:=(cE N (2*k)).1 h;rw[Nat.two_mul,Nat.pow_add] at a;exact Nat.lt_of_lt_of_le a (gP (Nat.le_succ _))
def ix(X c a b q r:Nat):Prop:=q*a+r=X∧(X*4294967296+c)/(a*4294967296+b)≤q∧q≤4294967297
theorem mH(X c a b:Nat)(j:2147483648≤a)(g:b<4294967296)(d:c<4294967296)(i:X<a*4294967296+b):ix X c a b (X/a) (X%a):=by
 refine⟨by rw[Nat.mul_comm];exact Nat.div_add_mod X a,?_,?_⟩
 ·have h:=est (X*4294967296+c) (a*4294967296+b) 4294967296 a (by omega) (by decide) (by omega);have e:(X*4294967296+c)/4294967296=X:=by omega
  rwa [e] at h
 · have f : X / a < 4294967298 := by
     rw[Nat.div_lt_iff_lt_mul (by omega)];omega
   omega
theorem pH(X c a b:Nat)(d:c<4294967296)(e:X<a*4294967296+b):(X*4294967296+c)/(a*4294967296+b)<4294967296:=by
 rw[Nat.div_lt_iff_lt_mul (by omega)];omega
theorem sM(X c a b q r:Nat)(h:ix X c a b q r)(g:X<a*4294967296+b)(f:4294967296*r+c<q*b):(X*4294967296+c)/(a*4294967296+b)<q:=by
 obtain⟨d,_,_⟩:=h;rw[Nat.div_lt_iff_lt_mul (by omega),← d];have e:q*(a*4294967296+b)=q*a*4294967296+q*b:=by rw[Nat.mul_add,Nat.mul_assoc]
 omega
theorem qX(X c a b q r:Nat)(h:ix X c a b q r)(d:(X*4294967296+c)/(a*4294967296+b)<q):ix X c a b (q-1) (r+a):=by
 obtain⟨e,f,g⟩:=h;have i:=Nat.lt_of_le_of_lt (Nat.zero_le _) d;obtain⟨p,rfl⟩:∃p,q=p+1:=⟨q-1,by omega⟩;refine⟨?_,Nat.le_of_lt_succ d,by omega⟩;rw[Nat.add_mul,Nat.one_mul] at e;rw[Nat.add_sub_cancel];omega
theorem oz(X c a b q r:Nat)(h:ix X c a b q r)(i:X<a*4294967296+b)(f:q*b≤4294967296*r+c):q=(X*4294967296+c)/(a*4294967296+b):=by
 obtain⟨g,d,_⟩:=h
 have:q≤(X*4294967296+c)/(a*4294967296+b):=by
  rw[Nat.le_div_iff_mul_le (by omega),← g];have e:q*(a*4294967296+b)=q*a*4294967296+q*b:=by rw[Nat.mul_add,Nat.mul_assoc]
  omega
 exact Nat.le_antisymm this d
theorem sN(X c a b q r:Nat)(h:ix X c a b q r)(e:X<a*4294967296+b)(g:b<4294967296)(d:q≤4294967296)(f:4294967296≤r):q=(X*4294967296+c)/(a*4294967296+b):=by
 refine oz X c a b q r h e ?_;have:q*b≤4294967296*4294967295:=Nat.mul_le_mul d (by omega);omega
theorem ou(X c a b q r Y:Nat)(T:ix X c a b q r)(j:Y=a*4294967296+b)(f:X<a*4294967296+b)(i:c<4294967296)(l:b<4294967296):((4294967296≤q∨4294967296*r+c<q*b)→∃p g,q=p+1∧g=r+a∧ix X c a b p g∧(4294967296≤g→p=(X*4294967296+c)/Y)) ∧
   (¬(4294967296≤q∨4294967296*r+c<q*b)→q=(X*4294967296+c)/Y):=by
 subst j;constructor
 ·intro e
  have d:(X*4294967296+c)/(a*4294967296+b)<q:=by
   rcases e with e|e
   ·exact Nat.lt_of_lt_of_le (pH X c a b i f) e
   ·exact sM X c a b q r T f e
  have h:=Nat.lt_of_le_of_lt (Nat.zero_le _) d;have m:=T.2.2;refine⟨q-1,r+a,by omega,rfl,qX X c a b q r T d,fun k=>?_⟩;exact sN X c a b (q-1) (r+a) (qX X c a b q r T d) f l (by omega) k
 ·intro e;exact oz X c a b q r T f (by omega)
theorem nK(X c P R y:Nat)(d:R<y)(b:y≤18446744073709551616)(h:P+R=X*4294967296+c)(_hX:X<18446744073709551616)(_hc:c<4294967296):((((X:Int)*4294967296)%18446744073709551616+c)%18446744073709551616-(P:Int)%18446744073709551616)%18446744073709551616=(R:Int):=by
 have:(((X:Int)*4294967296)%18446744073709551616+c)%18446744073709551616=((X:Int)*4294967296+c)%18446744073709551616:=by omega
 rw[this];have a:(X:Int)*4294967296+c=P+R:=by omega
 rw[a];omega
theorem wy(z a Y:Nat)(d:0<Y):z/Y*4294967296+(z%Y*4294967296+a)/Y=(z*4294967296+a)/Y∧(z%Y*4294967296+a)%Y/1=(z*4294967296+a)%Y:=by
 have c:=Nat.div_add_mod z Y;generalize z/Y=q at *;generalize z%Y=r at *
 have b:z*4294967296+a=(r*4294967296+a)+Y*(q*4294967296):=by
  rw[← c,Nat.add_mul,Nat.mul_assoc];omega
 rw[b,Nat.add_mul_div_left _ _ d,Nat.add_mul_mod_self_left,Nat.div_one];exact⟨Nat.add_comm _ _,rfl⟩
theorem rn(h l y s X a b:Nat)(i:X*18446744073709551616+(b*4294967296+a)=(h*18446744073709551616+l)*2^s)(_hc0:a<4294967296)(e:0<y)(_hlt:X<y*2^s):(X*4294967296+b)/(y*2^s)*4294967296+((X*4294967296+b)%(y*2^s)*4294967296+a)/(y*2^s)=(h*18446744073709551616+l)/y ∧
   ((X*4294967296+b)%(y*2^s)*4294967296+a)%(y*2^s)/2^s=(h*18446744073709551616+l)%y:=by
 have g:0<y*2^s:=Nat.mul_pos e (Nat.two_pow_pos s);have f:(h*18446744073709551616+l)*2^s=(X*4294967296+b)*4294967296+a:=by omega
 have c:=jN (h*18446744073709551616+l) y s;have d:=jE (h*18446744073709551616+l) y s;rw[f] at c d;rw[← c,← d];have h:=wy (X*4294967296+b) a (y*2^s) g;exact⟨h.1,by rw[← h.2,Nat.div_one]⟩
theorem rm(h l y s:Nat)(m:s≤64)(g:y*2^s<18446744073709551616)(b:h<y)(f:l<18446744073709551616):(h*2^s%18446744073709551616)|||(l/2^(64-s))=h*2^s+l/2^(64-s)∧h*2^s+l/2^(64-s)<y*2^s ∧
   (h*2^s+l/2^(64-s))*18446744073709551616+l*2^s%18446744073709551616=(h*18446744073709551616+l)*2^s:=by
 have a:(18446744073709551616:Nat)=2^s*2^(64-s):=by rw[← Nat.pow_add,show s+(64-s)=64 by omega]
 have e:l/2^(64-s)<2^s:=by rw[Nat.div_lt_iff_lt_mul (Nat.two_pow_pos _),← a];exact f
 have i:h*2^s+2^s≤y*2^s:=by
  have:(h+1)*2^s≤y*2^s:=Nat.mul_le_mul_right _ b;rwa [Nat.add_mul,Nat.one_mul] at this
 have k:=Nat.two_pow_pos s;refine⟨?_,by omega,?_⟩
 ·rw[Nat.mod_eq_of_lt (by omega),fz _ _ _ e]
 · have d : l * 2 ^ s / 18446744073709551616 = l / 2 ^ (64 - s) := by
     conv=>lhs;rw[a]
     rw[Nat.mul_comm l,Nat.mul_div_mul_left _ _ (Nat.two_pow_pos _)]
   have c:=Nat.div_add_mod (l*2^s) 18446744073709551616;rw[d] at c;rw[Nat.add_mul,Nat.add_mul];have j:h*18446744073709551616*2^s=h*2^s*18446744073709551616:=Nat.mul_right_comm _ _ _;omega
theorem nR(y:Nat)(b:y≠0)(c:y<18446744073709551616):bl y≤64∧y*2^(64-bl y)<18446744073709551616∧9223372036854775808≤y*2^(64-bl y):=by
 have g:bl y≤64:=(cE y 64).2 c;have e:=mU y;have f:=d7 y b;have h:=iL y b;have d:(18446744073709551616:Nat)=2^bl y*2^(64-bl y):=by rw[← Nat.pow_add,show bl y+(64-bl y)=64 by omega]
 have a:(9223372036854775808:Nat)=2^(bl y-1)*2^(64-bl y):=by rw[← Nat.pow_add,show bl y-1+(64-bl y)=63 by omega]
 refine⟨g,?_,?_⟩
 ·rw[d];exact Nat.mul_lt_mul_of_pos_right e (Nat.two_pow_pos _)
 ·rw[a];exact Nat.mul_le_mul_right _ f
theorem aI{P Q R:Prop}(h:P→Q)(a:P)(k:Q→R):R:=k (h a)
end Go.Proofs.YtechbdnhalmobaaGreatDoor
