/- Plain facts on natural numbers and their words of 64 bits. No program in sight. The plain law of long division by words of 64 bits, and of shifts. No program in sight. The plain law of math/bits.Div64: two digits of 32 bits. No program in sight. A small tool for what is kept behind a call. No program in sight. -/
namespace Go.Proofs.YtechbdnhalmobaaGreatDoor
set_option linter.unusedSimpArgs false
set_option linter.unusedVariables false

def wdn (N i:Nat):Nat:=N/2^(64*i)%2^64
def wd (N i:Nat):Int:=(wdn N i:Int)
theorem wdn_lt (N i:Nat):wdn N i<18446744073709551616:=by
 unfold wdn;exact Nat.mod_lt _ (by decide)
theorem wd_nonneg (N i:Nat):0≤wd N i:=Int.natCast_nonneg _
theorem wd_lt (N i:Nat):wd N i<18446744073709551616:=by
 have:=wdn_lt N i;unfold wd;omega
theorem wd_zero (i:Nat):wd 0 i=0:=by simp [wd,wdn]
theorem wdn_zero (i:Nat):wdn 0 i=0:=by simp [wdn]
theorem wdn_mod (N n i:Nat) (h:i<n):wdn (N%2^(64*n)) i=wdn N i:=by
 unfold wdn
 rw [show 64*n=64*i+64*(n-i) by omega,Nat.pow_add,Nat.mod_mul_right_div_self]
 rw [show 64*(n-i)=64+64*(n-i-1) by omega,Nat.pow_add,Nat.mod_mul_right_mod]
theorem wd_mod (N n i:Nat) (h:i<n):wd (N%2^(64*n)) i=wd N i:=by unfold wd;rw [wdn_mod N n i h]
theorem cut_succ (N i:Nat):N%2^(64*(i+1))=N%2^(64*i)+2^(64*i)*wdn N i:=by
 unfold wdn
 rw [show 64*(i+1)=64*i+64 by omega,Nat.pow_add,Nat.mod_mul]
theorem div_step (N i:Nat):N/2^(64*i)=wdn N i+18446744073709551616*(N/2^(64*(i+1))):=by
 unfold wdn
 rw [show 64*(i+1)=64*i+64 by omega,Nat.pow_add,← Nat.div_div_eq_div_mul]
 have:=Nat.mod_add_div (N/2^(64*i)) (2^64)
 exact this.symm
theorem eq_of_wdn (n:Nat):∀ N M:Nat,N<2^(64*n)→M<2^(64*n)→(∀ i,i<n→wdn N i=wdn M i)→N=M:=by
 intro N M hN hM h
 have key:∀ k,k≤n→N%2^(64*k)=M%2^(64*k):=by
  intro k
  induction k with
  | zero=>intro _;simp [Nat.mod_one]
  | succ k ih=>intro hk;rw [cut_succ,cut_succ,ih (by omega),h k (by omega)]
 have:=key n (Nat.le_refl n)
 rwa [Nat.mod_eq_of_lt hN,Nat.mod_eq_of_lt hM] at this
/-! ### Sums -/
def carr (N M i:Nat):Int:=(((N%2^(64*i)+M%2^(64*i))/2^(64*i):Nat):Int)
theorem carr_zero (N M:Nat):carr N M 0=0:=by unfold carr;simp [Nat.mod_one]
theorem carr_nonneg (N M i:Nat):0≤carr N M i:=Int.natCast_nonneg _
theorem carr_le (N M i:Nat):carr N M i≤1:=by
 unfold carr
 have h:=Nat.two_pow_pos (64*i)
 have h1:=Nat.mod_lt N h
 have h2:=Nat.mod_lt M h
 have:(N%2^(64*i)+M%2^(64*i))/2^(64*i)<2:=by
  rw [Nat.div_lt_iff_lt_mul h];omega
 omega
theorem add_word_aux (N M p:Nat) (hp:0<p):(N+M)/p%18446744073709551616=(N/p%18446744073709551616+M/p%18446744073709551616+(N%p+M%p)/p)%18446744073709551616:=by
 have h:(N+M)/p=N/p+M/p+(N%p+M%p)/p:=by
  rw [Nat.add_div hp]
  have h1:=Nat.mod_lt N hp
  have h2:=Nat.mod_lt M hp
  split
  ·rename_i h3
   have:(N%p+M%p)/p=1:=by
    apply Nat.div_eq_of_lt_le <;> omega
   omega
  ·rename_i h3
   have:(N%p+M%p)/p=0:=Nat.div_eq_of_lt (by omega)
   omega
 rw [h];omega
theorem add_word (N M i:Nat):(wd N i+wd M i+carr N M i)%18446744073709551616=wd (N+M) i:=by
 unfold wd wdn carr
 have:=add_word_aux N M (2^(64*i)) (Nat.two_pow_pos _)
 have e:(2:Nat)^64=18446744073709551616:=rfl
 rw [e]
 omega
theorem carr_succ_aux (a b x y p:Nat) (hp:0<p):((a+p*x)+(b+p*y))/(p*18446744073709551616)=(x+y+(a+b)/p)/18446744073709551616:=by
 rw [← Nat.div_div_eq_div_mul]
 have:((a+p*x)+(b+p*y))/p=(a+b)/p+(x+y):=by
  rw [show (a+p*x)+(b+p*y)=(a+b)+p*(x+y) by rw [Nat.mul_add];omega]
  rw [Nat.add_mul_div_left _ _ hp]
 rw [this];congr 1;omega
theorem pow_succ64 (i:Nat):(2:Nat)^(64*(i+1))=2^(64*i)*18446744073709551616:=by
 rw [show 64*(i+1)=64*i+64 by omega,Nat.pow_add]
theorem carr_succ (N M i:Nat):(wd N i+wd M i+carr N M i)/18446744073709551616=carr N M (i+1):=by
 have h:=carr_succ_aux (N%2^(64*i)) (M%2^(64*i)) (wdn N i) (wdn M i) (2^(64*i)) (Nat.two_pow_pos _)
 unfold wd carr
 rw [cut_succ N i,cut_succ M i,pow_succ64,h]
 omega
/-! ### Differences -/
def borr (N M i:Nat):Int:=if N%2^(64*i)<M%2^(64*i) then 1 else 0
theorem borr_zero (N M:Nat):borr N M 0=0:=by unfold borr;simp [Nat.mod_one]
theorem borr_nonneg (N M i:Nat):0≤borr N M i:=by unfold borr;split <;> decide
theorem borr_le (N M i:Nat):borr N M i≤1:=by unfold borr;split <;> decide
theorem sub_word_aux (N M p:Nat) (hp:0<p) (hle:M≤N):(N-M)/p+M/p+(if N%p<M%p then 1 else 0)=N/p:=by
 have h1:=Nat.mod_lt N hp
 have h2:=Nat.mod_lt M hp
 have e1:=Nat.div_add_mod N p
 have e2:=Nat.div_add_mod M p
 have hq:M/p≤N/p:=Nat.div_le_div_right hle
 generalize hA:N/p=A at *
 generalize hB:M/p=Bq at *
 generalize hr:N%p=r at *
 generalize hs:M%p=s at *
 split
 ·rename_i hlt
  have hAB:Bq<A:=by
   rcases Nat.lt_or_ge Bq A with h|h
   ·exact h
   ·have:A=Bq:=by omega
    subst this;omega
  obtain ⟨d,rfl⟩:=Nat.exists_eq_add_of_lt hAB
  have:N-M=(p+r-s)+p*d:=by
   have:p*(Bq+d+1)=p*Bq+p*d+p:=by rw [Nat.mul_add,Nat.mul_add,Nat.mul_one]
   omega
  rw [this,Nat.add_mul_div_left _ _ hp,Nat.div_eq_of_lt (by omega)]
  omega
 ·rename_i hlt
  obtain ⟨d,rfl⟩:=Nat.exists_eq_add_of_le hq
  have:N-M=(r-s)+p*d:=by
   have:p*(Bq+d)=p*Bq+p*d:=by rw [Nat.mul_add]
   omega
  rw [this,Nat.add_mul_div_left _ _ hp,Nat.div_eq_of_lt (by omega)]
  omega
theorem sub_word (N M i:Nat) (hle:M≤N):(wd N i-wd M i-borr N M i)%18446744073709551616=wd (N-M) i:=by
 have h:=sub_word_aux N M (2^(64*i)) (Nat.two_pow_pos _) hle
 have e:(2:Nat)^64=18446744073709551616:=rfl
 unfold wd wdn borr
 rw [e]
 split at h <;> rename_i hc <;> simp only [hc,if_true,if_false] <;> omega
theorem borr_succ (N M i:Nat):(if wd N i<wd M i+borr N M i then (1:Int) else 0)=borr N M (i+1):=by
 have hp:=Nat.two_pow_pos (64*i)
 have h1:=Nat.mod_lt N hp
 have h2:=Nat.mod_lt M hp
 unfold borr wd
 rw [cut_succ N i,cut_succ M i]
 generalize wdn N i=x
 generalize wdn M i=y
 generalize N%2^(64*i)=r at *
 generalize M%2^(64*i)=s at *
 generalize 2^(64*i)=p at *
 have key:(r+p*x<s+p*y)↔(x<y∨(x=y∧r<s)):=by
  constructor
  ·intro h
   rcases Nat.lt_trichotomy x y with h3|h3|h3
   ·exact .inl h3
   ·subst h3;exact .inr ⟨rfl,by omega⟩
   ·obtain ⟨d,rfl⟩:=Nat.exists_eq_add_of_lt h3
    have:p*(y+d+1)=p*y+p*d+p:=by rw [Nat.mul_add,Nat.mul_add,Nat.mul_one]
    omega
  ·rintro (h|⟨rfl,h⟩)
   ·obtain ⟨d,rfl⟩:=Nat.exists_eq_add_of_lt h
    have:p*(x+d+1)=p*x+p*d+p:=by rw [Nat.mul_add,Nat.mul_add,Nat.mul_one]
    omega
   ·omega
 by_cases hc:r+p*x<s+p*y
 ·rw [if_pos hc]
  rw [key] at hc
  rcases hc with h|⟨h,h'⟩
  ·by_cases h3:r<s <;> simp only [h3,if_true,if_false] <;> rw [if_pos (by omega)]
  ·simp only [h',if_true];rw [if_pos (by omega)]
 ·rw [if_neg hc]
  rw [key] at hc
  by_cases h3:r<s
  ·simp only [h3,if_true];rw [if_neg];intro h4;apply hc;by_cases h5:x<y
   ·exact .inl h5
   ·exact .inr ⟨by omega,h3⟩
  ·simp only [h3,if_false];rw [if_neg];intro h4;apply hc;exact .inl (by omega)
theorem pow2_le (a b:Nat) (h:a≤b):(2:Nat)^a≤2^b:=Nat.pow_le_pow_right (by decide) h
/-! ### How many bits, how many words -/
def bl (N:Nat):Nat:=if N=0 then 0 else Nat.log2 N+1
theorem bl_zero:bl 0=0:=rfl
theorem bl_lt (N:Nat):N<2^bl N:=by
 unfold bl;split
 ·rename_i h;subst h;simp
 ·exact Nat.lt_log2_self
theorem bl_le_self (N:Nat) (h:N≠0):2^(bl N-1)≤N:=by
 unfold bl;rw [if_neg h];exact Nat.log2_self_le h
theorem bl_le_iff (N k:Nat):bl N≤k↔N<2^k:=by
 constructor
 ·intro h;exact Nat.lt_of_lt_of_le (bl_lt N) (Nat.pow_le_pow_right (by decide) h)
 ·intro h
  by_cases h0:N=0
  ·subst h0;simp [bl]
  ·have h1:=bl_le_self N h0
   have h2:2^(bl N-1)<2^k:=Nat.lt_of_le_of_lt h1 h
   have:=(Nat.pow_lt_pow_iff_right (by decide:1<2)).1 h2
   omega
theorem bl_unique (N k:Nat) (h1:N<2^k) (h2:k=0∨2^(k-1)≤N):bl N=k:=by
 have a:=(bl_le_iff N k).2 h1
 rcases h2 with rfl|h2
 ·omega
 ·by_cases h:bl N≤k-1
  ·have:=(bl_le_iff N (k-1)).1 h
   by_cases hk:k=0
   ·omega
   ·omega
  ·omega
theorem bl_pos (N:Nat) (h:N≠0):0<bl N:=by unfold bl;rw [if_neg h];omega
def np (N:Nat):Nat:=(bl N+63)/64
theorem np_le_iff (N n:Nat):np N≤n↔N<2^(64*n):=by
 rw [← bl_le_iff];unfold np;omega
theorem np_lt (N:Nat):N<2^(64*np N):=(np_le_iff N _).1 (Nat.le_refl _)
theorem np_unique (N n:Nat) (h1:N<2^(64*n)) (h2:n=0∨2^(64*(n-1))≤N):np N=n:=by
 have a:=(np_le_iff N n).2 h1
 rcases h2 with rfl|h2
 ·omega
 ·by_cases h:np N≤n-1
  ·have:=(np_le_iff N (n-1)).1 h
   by_cases hk:n=0 <;> omega
  ·omega
theorem np_zero_iff (N:Nat):np N=0↔N=0:=by
 constructor
 ·intro h;have:=np_lt N;rw [h] at this;simpa using this
 ·rintro rfl;rfl
theorem np_le_self (N:Nat) (h:N≠0):2^(64*(np N-1))≤N:=by
 rcases Nat.lt_or_ge N (2^(64*(np N-1))) with h1|h1
 ·have:=(np_le_iff N (np N-1)).2 h1
  have:np N≠0:=fun h0=>h ((np_zero_iff N).1 h0)
  omega
 ·exact h1
theorem lt_pow_of_wdn_zero (N k:Nat) (h:N<2^(64*(k+1))) (h0:wdn N k=0):N<2^(64*k):=by
 have hd:=div_step N k
 have:N/2^(64*(k+1))=0:=Nat.div_eq_of_lt h
 rw [this,h0] at hd
 have hz:N/2^(64*k)=0:=by omega
 exact (Nat.div_eq_zero_iff_lt (Nat.two_pow_pos _)).1 hz
theorem pow_le_of_wdn_ne (N k:Nat) (h0:wdn N k≠0):2^(64*k)≤N:=by
 rcases Nat.lt_or_ge N (2^(64*k)) with h|h
 ·exfalso;apply h0;unfold wdn;rw [Nat.div_eq_of_lt h]
 ·exact h
theorem wdn_top (N k:Nat) (h:N<2^(64*(k+1))):wdn N k=N/2^(64*k):=by
 have hd:=div_step N k
 have:N/2^(64*(k+1))=0:=Nat.div_eq_of_lt h
 rw [this] at hd;omega
theorem bl_top (N k:Nat) (h:N<2^(64*(k+1))) (h0:wdn N k≠0):bl N=64*k+bl (wdn N k):=by
 have ht:=wdn_top N k h
 have hb:=bl_pos _ h0
 apply bl_unique
 ·rw [Nat.pow_add]
  have h1:=bl_lt (wdn N k)
  rw [ht] at h1 ⊢
  rw [Nat.mul_comm]
  exact (Nat.div_lt_iff_lt_mul (Nat.two_pow_pos _)).1 h1
 ·right
  rw [show 64*k+bl (wdn N k)-1=64*k+(bl (wdn N k)-1) by omega,Nat.pow_add,Nat.mul_comm]
  have h1:=bl_le_self _ h0
  rw [ht] at h1 ⊢
  exact (Nat.le_div_iff_mul_le (Nat.two_pow_pos _)).1 h1
/-! ### Which is less -/
def cmpN (N M:Nat):Int:=if N<M then -1 else if M<N then 1 else 0
theorem lt_of_word (N M k:Nat) (h:N/2^(64*(k+1))=M/2^(64*(k+1))) (hw:wd N k<wd M k):N<M:=by
 have h1:=div_step N k
 have h2:=div_step M k
 have:N/2^(64*k)<M/2^(64*k):=by unfold wd at hw;omega
 rcases Nat.lt_or_ge N M with h3|h3
 ·exact h3
 ·have:=Nat.div_le_div_right (c:=2^(64*k)) h3;omega
theorem word_step (N M k:Nat) (h:N/2^(64*(k+1))=M/2^(64*(k+1))) (h1:¬ wd N k<wd M k) (h2:¬ wd M k<wd N k):N/2^(64*k)=M/2^(64*k):=by
 rw [div_step N k,div_step M k,h];unfold wd at *;omega
/-! ### One word set -/
def setw (A k v:Nat):Nat:=A-wdn A k*2^(64*k)+v*2^(64*k)
theorem wdn_mul_le (A k:Nat):wdn A k*2^(64*k)≤A:=by
 unfold wdn
 calc A/2^(64*k)%2^64*2^(64*k)≤A/2^(64*k)*2^(64*k):=Nat.mul_le_mul_right _ (Nat.mod_le _ _)
  _≤A:=Nat.div_mul_le_self _ _
theorem split3 (A k:Nat):A=A%2^(64*k)+2^(64*k)*wdn A k+2^(64*(k+1))*(A/2^(64*(k+1))):=by
 have h:=Nat.mod_add_div A (2^(64*(k+1)))
 rw [cut_succ] at h
 exact h.symm
theorem setw_split (A k v:Nat):setw A k v=A%2^(64*k)+2^(64*k)*v+2^(64*(k+1))*(A/2^(64*(k+1))):=by
 have h:=split3 A k
 unfold setw
 rw [Nat.mul_comm (wdn A k),Nat.mul_comm v]
 have:=wdn_mul_le A k
 rw [Nat.mul_comm] at this
 omega
theorem mod_setw (A k v:Nat):setw A k v%2^(64*k)=A%2^(64*k):=by
 rw [setw_split,pow_succ64,Nat.mul_assoc,Nat.add_assoc,← Nat.mul_add,Nat.add_mul_mod_self_left,Nat.mod_mod]
theorem div_setw (A k v:Nat) (hv:v<18446744073709551616):setw A k v/2^(64*(k+1))=A/2^(64*(k+1)):=by
 rw [setw_split,Nat.add_mul_div_left _ _ (Nat.two_pow_pos _)]
 rw [Nat.div_eq_of_lt,Nat.zero_add]
 have h1:=Nat.mod_lt A (Nat.two_pow_pos (64*k))
 rw [pow_succ64]
 generalize 2^(64*k)=p at *
 have h2:p*v≤p*18446744073709551615:=Nat.mul_le_mul_left _ (by omega)
 omega
theorem wdn_setw_same (A k v:Nat) (hv:v<18446744073709551616):wdn (setw A k v) k=v:=by
 have h1:=split3 (setw A k v) k
 rw [mod_setw,div_setw A k v hv] at h1
 have h2:=setw_split A k v
 have hp:=Nat.two_pow_pos (64*k)
 have:2^(64*k)*wdn (setw A k v) k=2^(64*k)*v:=by omega
 exact Nat.eq_of_mul_eq_mul_left hp this
theorem wdn_setw_other (A k v j:Nat) (hv:v<18446744073709551616) (hj:j≠k):wdn (setw A k v) j=wdn A j:=by
 rcases Nat.lt_or_gt_of_ne hj with h|h
 ·rw [← wdn_mod (setw A k v) k j h,mod_setw,wdn_mod _ _ _ h]
 ·obtain ⟨d,rfl⟩:=Nat.exists_eq_add_of_lt h
  have e:∀ X:Nat,wdn X (k+d+1)=wdn (X/2^(64*(k+1))) d:=fun X=>by
   unfold wdn
   rw [Nat.div_div_eq_div_mul,← Nat.pow_add]
   congr 3;omega
  rw [e,e,div_setw A k v hv]
theorem setw_lt (A k v n:Nat) (hv:v<18446744073709551616) (hk:k<n) (hA:A<2^(64*n)):setw A k v<2^(64*n):=by
 have h1:=div_setw A k v hv
 have e:∀ X:Nat,X/2^(64*n)=X/2^(64*(k+1))/2^(64*(n-k-1)):=fun X=>by
  rw [Nat.div_div_eq_div_mul,← Nat.pow_add];congr 2;omega
 have h0:setw A k v/2^(64*n)=0:=by
  rw [e,h1,← e];exact Nat.div_eq_of_lt hA
 exact (Nat.div_eq_zero_iff_lt (Nat.two_pow_pos _)).1 h0
theorem setw_add (A k v c:Nat) (h:wdn A k+c=v):setw A k v=A+c*2^(64*k):=by
 subst h
 have:=wdn_mul_le A k
 unfold setw
 rw [Nat.add_mul]
 omega
theorem wdn_eq_zero_of_lt (A k n:Nat) (h:A<2^(64*n)) (hk:n≤k):wdn A k=0:=by
 unfold wdn
 rw [Nat.div_eq_of_lt]
 exact Nat.lt_of_lt_of_le h (Nat.pow_le_pow_right (by decide) (by omega))

/-! ### The top words -/
theorem top2 (U k:Nat) (h:U<2^(64*(k+2))):U/2^(64*k)=wdn U (k+1)*18446744073709551616+wdn U k:=by
 rw [div_step U k,← wdn_top U (k+1) h];omega
theorem top3 (U k:Nat) (h:U<2^(64*(k+3))):U/2^(64*k)=(wdn U (k+2)*18446744073709551616+wdn U (k+1))*18446744073709551616+wdn U k:=by
 rw [div_step U k,top2 U (k+1) h,show k+1+1=k+2 from rfl];omega
/-! ### The digit that is tried is never too small -/
theorem est (U W P v:Nat) (hv:0<v) (hP:0<P) (h:v*P≤W):U/W≤U/P/v:=by
 rw [Nat.div_div_eq_div_mul,Nat.mul_comm P v]
 exact Nat.div_le_div_left h (Nat.mul_pos hv hP)
theorem est1 (U W k v1:Nat) (hv:0<v1) (hU:U<2^(64*(k+2))) (h:v1*2^(64*k)≤W):U/W≤(wdn U (k+1)*18446744073709551616+wdn U k)/v1:=by
 rw [← top2 U k hU];exact est U W _ v1 hv (Nat.two_pow_pos _) h
theorem est2_aux (d v1 v2 l u B:Nat) (hv:0<v1*B+v2) (h:l*B+u<d*v2):((d*v1+l)*B+u)/(v1*B+v2)<d:=by
 rw [Nat.div_lt_iff_lt_mul hv]
 have e:d*(v1*B+v2)=d*v1*B+d*v2:=by rw [Nat.mul_add,Nat.mul_assoc]
 have e2:(d*v1+l)*B=d*v1*B+l*B:=Nat.add_mul _ _ _
 omega
theorem est2 (U W k v1 v2 d l:Nat) (hv:0<v1) (hU:U<2^(64*(k+3))) (h:(v1*18446744073709551616+v2)*2^(64*k)≤W)
  (hd:d*v1+l=wdn U (k+2)*18446744073709551616+wdn U (k+1)) (hgt:l*18446744073709551616+wdn U k<d*v2):U/W<d:=by
 have h1:=est U W _ (v1*18446744073709551616+v2) (by omega) (Nat.two_pow_pos (64*k)) h
 rw [top3 U k hU,← hd] at h1
 have h2:=est2_aux d v1 v2 l (wdn U k) 18446744073709551616 (by omega) hgt
 exact Nat.lt_of_le_of_lt h1 h2
theorem top_le1 (V n j:Nat) (hn:1≤n):wdn V (n-1)*2^(64*(j+n-1))≤V*2^(64*j):=by
 rw [show 64*(j+n-1)=64*(n-1)+64*j by omega,Nat.pow_add,← Nat.mul_assoc]
 exact Nat.mul_le_mul_right _ (wdn_mul_le V (n-1))
theorem top_le2 (V n j:Nat) (hn:2≤n) (hV:V<2^(64*n)):(wdn V (n-1)*18446744073709551616+wdn V (n-2))*2^(64*(j+n-2))≤V*2^(64*j):=by
 rw [show 64*(j+n-2)=64*(n-2)+64*j by omega,Nat.pow_add,← Nat.mul_assoc]
 refine Nat.mul_le_mul_right _ ?_
 have h:=top2 V (n-2) (by rw [show n-2+2=n by omega];exact hV)
 rw [show n-2+1=n-1 by omega] at h
 rw [← h]
 exact Nat.div_mul_le_self _ _
/-! ### So often v is taken away, word by word -/
theorem ms_step (A x V U c bo i j t low c' bo':Nat) (h:A+x*(V%2^(64*i))*2^(64*j)=U+(bo+c)*2^(64*(i+j)))
  (hm:x*wdn V i+c=c'*18446744073709551616+low) (ht:t+low+bo=wdn A (i+j)+bo'*18446744073709551616) :
  setw A (i+j) t+x*(V%2^(64*(i+1)))*2^(64*j)=U+(bo'+c')*2^(64*(i+1+j)):=by
 have hle:=wdn_mul_le A (i+j)
 rw [cut_succ V i,show i+1+j=(i+j)+1 by omega,pow_succ64 (i+j)]
 have e1:x*(V%2^(64*i)+2^(64*i)*wdn V i)*2^(64*j)=x*(V%2^(64*i))*2^(64*j)+x*wdn V i*2^(64*(i+j)):=by
  rw [Nat.mul_add,Nat.add_mul,show 64*(i+j)=64*i+64*j by omega,Nat.pow_add]
  congr 1
  rw [← Nat.mul_assoc,← Nat.mul_assoc,Nat.mul_assoc x,Nat.mul_comm (2^(64*i)),← Nat.mul_assoc]
 rw [e1]
 unfold setw
 generalize 2^(64*(i+j))=p at *
 have e2:(x*wdn V i+c)*p=(c'*18446744073709551616+low)*p:=by rw [hm]
 have e3:(t+low+bo)*p=(wdn A (i+j)+bo'*18446744073709551616)*p:=by rw [ht]
 simp only [Nat.add_mul] at e2 e3 h ⊢
 have e4:∀ y:Nat,y*(p*18446744073709551616)=y*18446744073709551616*p:=fun y=>by
  rw [Nat.mul_comm p,← Nat.mul_assoc]
 rw [e4,e4]
 omega
theorem ms_last (A X U c bo k t bo':Nat) (h:A+X=U+(bo+c)*2^(64*k)) (ht:t+c+bo=wdn A k+bo'*18446744073709551616) :
  setw A k t+X=U+bo'*2^(64*(k+1)):=by
 have hle:=wdn_mul_le A k
 rw [pow_succ64 k]
 unfold setw
 generalize 2^(64*k)=p at *
 have e3:(t+c+bo)*p=(wdn A k+bo'*18446744073709551616)*p:=by rw [ht]
 simp only [Nat.add_mul] at e3 h ⊢
 have e4:∀ y:Nat,y*(p*18446744073709551616)=y*18446744073709551616*p:=fun y=>by
  rw [Nat.mul_comm p,← Nat.mul_assoc]
 rw [e4]
 omega
theorem ab_step (A A0 V c i j t c':Nat) (h:A+c*2^(64*(i+j))=A0+V%2^(64*i)*2^(64*j)) (ht:t+c'*18446744073709551616=wdn A (i+j)+wdn V i+c) :
  setw A (i+j) t+c'*2^(64*(i+1+j))=A0+V%2^(64*(i+1))*2^(64*j):=by
 have hle:=wdn_mul_le A (i+j)
 rw [cut_succ V i,show i+1+j=(i+j)+1 by omega,pow_succ64 (i+j)]
 have e1:(V%2^(64*i)+2^(64*i)*wdn V i)*2^(64*j)=V%2^(64*i)*2^(64*j)+wdn V i*2^(64*(i+j)):=by
  rw [Nat.add_mul,show 64*(i+j)=64*i+64*j by omega,Nat.pow_add]
  congr 1
  rw [Nat.mul_comm (2^(64*i)),Nat.mul_assoc]
 rw [e1]
 unfold setw
 generalize 2^(64*(i+j))=p at *
 have e3:(t+c'*18446744073709551616)*p=(wdn A (i+j)+wdn V i+c)*p:=by rw [ht]
 simp only [Nat.add_mul] at e3 h ⊢
 have e4:∀ y:Nat,y*(p*18446744073709551616)=y*18446744073709551616*p:=fun y=>by
  rw [Nat.mul_comm p,← Nat.mul_assoc]
 rw [e4]
 omega
theorem ab_last (A X c k t c':Nat) (h:A+c*2^(64*k)=X) (ht:t+c'*18446744073709551616=wdn A k+c) :
  setw A k t+c'*2^(64*(k+1))=X:=by
 have hle:=wdn_mul_le A k
 rw [pow_succ64 k]
 unfold setw
 generalize 2^(64*k)=p at *
 have e3:(t+c'*18446744073709551616)*p=(wdn A k+c)*p:=by rw [ht]
 simp only [Nat.add_mul] at e3 h ⊢
 have e4:∀ y:Nat,y*(p*18446744073709551616)=y*18446744073709551616*p:=fun y=>by
  rw [Nat.mul_comm p,← Nat.mul_assoc]
 rw [e4]
 omega
theorem ab_turn (A A1 d W U bo c P:Nat) (hd:0<d) (h:A+d*W=U+bo*P) (h1:A1+c*P=A+W) (hc:c≤bo):A1+(d-1)*W=U+(bo-c)*P:=by
 obtain ⟨e,rfl⟩:∃ e,d=e+1:=⟨d-1,by omega⟩
 obtain ⟨f,rfl⟩:∃ f,bo=f+c:=⟨bo-c,by omega⟩
 rw [Nat.add_sub_cancel,Nat.add_sub_cancel]
 simp only [Nat.add_mul,Nat.one_mul] at h ⊢
 omega
theorem too_great (A d W U P:Nat) (hA:A<P) (hW:0<W) (h:A+d*W=U+1*P):U/W<d:=by
 rw [Nat.div_lt_iff_lt_mul hW];omega
theorem digit_done (A d W U:Nat) (hW:0<W) (hd:U/W≤d) (h:A+d*W=U):d=U/W∧A=U%W:=by
 have h1:d≤U/W:=by rw [Nat.le_div_iff_mul_le hW];omega
 have h2:d=U/W:=by omega
 refine ⟨h2,?_⟩
 have h3:=Nat.div_add_mod U W
 rw [← h2,Nat.mul_comm] at h3
 omega
theorem digit_lt (U V j:Nat) (hV:0<V) (h:U<V*2^(64*(j+1))):U/(V*2^(64*j))<18446744073709551616:=by
 rw [Nat.div_lt_iff_lt_mul (Nat.mul_pos hV (Nat.two_pow_pos _)),Nat.mul_comm,Nat.mul_assoc,← pow_succ64]
 exact h
/-! ### One digit behind another -/
theorem quo_step (N W:Nat):N/W=N/(W*18446744073709551616)*18446744073709551616+N%(W*18446744073709551616)/W:=by
 have h:=Nat.div_add_mod N (W*18446744073709551616)
 rcases Nat.eq_zero_or_pos W with rfl|hW
 ·simp
 ·conv=>lhs;rw [← h]
  rw [Nat.mul_assoc,Nat.mul_add_div hW]
  rw [Nat.mul_comm (18446744073709551616)]
theorem setw_quo (a j d:Nat):setw (a*2^(64*(j+1))) j d=(a*18446744073709551616+d)*2^(64*j):=by
 have h0:wdn (a*2^(64*(j+1))) j+d=d:=by
  have:wdn (a*2^(64*(j+1))) j=0:=by
   unfold wdn
   rw [pow_succ64,Nat.mul_comm (2^(64*j)),← Nat.mul_assoc,Nat.mul_div_cancel _ (Nat.two_pow_pos _)]
   exact Nat.mul_mod_left _ _
  omega
 rw [setw_add _ _ _ _ h0,pow_succ64,Nat.add_mul,Nat.mul_comm (2^(64*j)),← Nat.mul_assoc]
theorem quo_words (N V j d:Nat) (hd:d=N%(V*2^(64*(j+1)))/(V*2^(64*j))) :
  setw (N/(V*2^(64*(j+1)))*2^(64*(j+1))) j d=N/(V*2^(64*j))*2^(64*j):=by
 rw [setw_quo,quo_step N (V*2^(64*j)),Nat.mul_assoc V,← pow_succ64,hd]
theorem rest_words (N V j:Nat):N%(V*2^(64*(j+1)))%(V*2^(64*j))=N%(V*2^(64*j)):=by
 rw [pow_succ64,← Nat.mul_assoc,Nat.mod_mul_right_mod]
theorem one_words (N b k:Nat) (hb:0<b):((N/2^(64*(k+1))%b)*18446744073709551616+wdn N k)/b+N/2^(64*(k+1))/b*18446744073709551616=N/2^(64*k)/b ∧
  ((N/2^(64*(k+1))%b)*18446744073709551616+wdn N k)%b=N/2^(64*k)%b:=by
 rw [div_step N k]
 generalize N/2^(64*(k+1))=x
 generalize wdn N k=y
 have h:=Nat.div_add_mod x b
 generalize x/b=q at *
 generalize x%b=r at *
 subst h
 have e:y+18446744073709551616*(b*q+r)=(r*18446744073709551616+y)+b*(q*18446744073709551616):=by
  rw [Nat.mul_add,Nat.mul_left_comm,Nat.mul_comm 18446744073709551616 q];omega
 rw [e]
 exact ⟨by rw [Nat.add_mul_div_left _ _ hb],by rw [Nat.add_mul_mod_self_left]⟩
theorem norm_lt (N M m n s:Nat) (hN:N<2^(64*m)) (hM:2^(64*(n-1))≤M) (hn:1≤n) (hmn:n≤m):N*2^s<M*2^s*2^(64*(m-n+1)):=by
 rw [Nat.mul_right_comm]
 refine Nat.mul_lt_mul_of_pos_right (Nat.lt_of_lt_of_le hN ?_) (Nat.two_pow_pos _)
 rw [show 64*m=64*(n-1)+64*(m-n+1) by omega,Nat.pow_add]
 exact Nat.mul_le_mul_right _ hM
theorem mod_scale (N M s:Nat):N*2^s%(M*2^s)/2^s=N%M:=by
 rw [Nat.mul_mod_mul_right,Nat.mul_div_cancel _ (Nat.two_pow_pos _)]
theorem div_scale (N M s:Nat):N*2^s/(M*2^s)=N/M:=Nat.mul_div_mul_right _ _ (Nat.two_pow_pos _)
/-! ### Shifts -/
theorem or_parts (a b r:Nat) (hb:b<2^r):(a*2^r) ||| b=a*2^r+b:=by
 rw [Nat.mul_comm,Nat.two_pow_add_eq_or_of_lt hb]
theorem wdn_up0 (N r:Nat):wdn (N*2^r) 0=wdn N 0*2^r%18446744073709551616:=by
 unfold wdn
 simp only [Nat.mul_zero,Nat.pow_zero,Nat.div_one]
 rw [Nat.mul_mod]
 conv=>rhs;rw [Nat.mul_mod]
 simp
theorem wdn_up (N r i:Nat) (hr:r≤64):wdn (N*2^r) (i+1)=wdn N (i+1)*2^r%18446744073709551616+wdn N i/2^(64-r):=by
 have h1:N*2^r/2^(64*(i+1))=N/2^(64*i)/2^(64-r):=by
  rw [Nat.div_div_eq_div_mul,← Nat.pow_add,show 64*(i+1)=r+(64*i+(64-r)) by omega,Nat.pow_add,Nat.mul_comm N,Nat.mul_div_mul_left _ _ (Nat.two_pow_pos _)]
 have h2:=div_step N i
 have h3:=div_step N (i+1)
 have hp:(18446744073709551616:Nat)=2^r*2^(64-r):=by rw [← Nat.pow_add,show r+(64-r)=64 by omega]
 have hlt:=wdn_lt N i
 show N*2^r/2^(64*(i+1))%18446744073709551616=_
 rw [h1,h2]
 generalize hx:wdn N (i+1)=x at *
 generalize wdn N i=y at *
 rw [h3]
 generalize N/2^(64*(i+1+1))=z
 have hq:(y+18446744073709551616*(x+18446744073709551616*z))/2^(64-r)=y/2^(64-r)+x*2^r+18446744073709551616*(z*2^r):=by
  have:y+18446744073709551616*(x+18446744073709551616*z)=y+2^(64-r)*(x*2^r+18446744073709551616*(z*2^r)):=by
   generalize 2^r=P at *
   generalize 2^(64-r)=Q at *
   generalize 18446744073709551616=B at *
   subst hp;grind
  rw [this,Nat.add_mul_div_left _ _ (Nat.two_pow_pos _)]
  omega
 rw [hq,Nat.add_mul_mod_self_left]
 have hy:y/2^(64-r)<2^r:=by
  rw [Nat.div_lt_iff_lt_mul (Nat.two_pow_pos _),← hp];exact hlt
 have hm:x*2^r%18446744073709551616=(x%2^(64-r))*2^r:=by
  rw [hp,Nat.mul_comm (2^r) (2^(64-r)),Nat.mul_mod_mul_right]
 have hb:(x%2^(64-r))*2^r+2^r≤18446744073709551616:=by
  have:=Nat.mod_lt x (Nat.two_pow_pos (64-r))
  calc (x%2^(64-r))*2^r+2^r=(x%2^(64-r)+1)*2^r:=by rw [Nat.add_mul,Nat.one_mul]
   _≤2^(64-r)*2^r:=Nat.mul_le_mul_right _ this
   _=18446744073709551616:=by rw [Nat.mul_comm];exact hp.symm
 have hdm:=Nat.div_add_mod (x*2^r) 18446744073709551616
 rw [← hm] at hb
 generalize y/2^(64-r)=a at *
 generalize 2^r=P at *
 generalize x*P=b at *
 omega
theorem wdn_up_or (N r i:Nat) (hr:r≤64):(wdn N (i+1)*2^r%18446744073709551616) ||| (wdn N i/2^(64-r))=wdn (N*2^r) (i+1):=by
 have hp:(18446744073709551616:Nat)=2^(64-r)*2^r:=by rw [← Nat.pow_add,show (64-r)+r=64 by omega]
 rw [wdn_up N r i hr]
 conv=>lhs;rw [hp,Nat.mul_mod_mul_right]
 rw [or_parts]
 ·rw [← Nat.mul_mod_mul_right,← hp]
 ·rw [Nat.div_lt_iff_lt_mul (Nat.two_pow_pos _),Nat.mul_comm,← hp];exact wdn_lt N i
theorem wdn_shift (N d i:Nat):wdn (N*2^(64*d)) (i+d)=wdn N i:=by
 unfold wdn
 rw [show 64*(i+d)=64*i+64*d by omega,Nat.pow_add,Nat.mul_div_mul_right _ _ (Nat.two_pow_pos _)]
theorem wdn_drop (N d i:Nat):wdn (N/2^(64*d)) i=wdn N (i+d):=by
 unfold wdn
 rw [Nat.div_div_eq_div_mul,← Nat.pow_add,show 64*d+64*i=64*(i+d) by omega]
theorem wdn_down (N r i:Nat) (hr:r≤64):wdn (N/2^r) i=wdn N i/2^r+wdn N (i+1)*2^(64-r)%18446744073709551616:=by
 have hp:(18446744073709551616:Nat)=2^r*2^(64-r):=by rw [← Nat.pow_add,show r+(64-r)=64 by omega]
 show N/2^r/2^(64*i)%18446744073709551616=_
 have e1:N/2^r/2^(64*i)=N/2^(64*i)/2^r:=by rw [Nat.div_div_eq_div_mul,Nat.mul_comm,← Nat.div_div_eq_div_mul]
 rw [e1,div_step N i,div_step N (i+1)]
 have hlt:=wdn_lt N i
 generalize wdn N (i+1)=x
 generalize wdn N i=y at *
 generalize N/2^(64*(i+1+1))=z
 have hq:(y+18446744073709551616*(x+18446744073709551616*z))/2^r=y/2^r+x*2^(64-r)+18446744073709551616*(z*2^(64-r)):=by
  have:y+18446744073709551616*(x+18446744073709551616*z)=y+2^r*(x*2^(64-r)+18446744073709551616*(z*2^(64-r))):=by
   generalize 2^r=P at *
   generalize 2^(64-r)=Q at *
   generalize 18446744073709551616=B at *
   subst hp;grind
  rw [this,Nat.add_mul_div_left _ _ (Nat.two_pow_pos _)]
  omega
 rw [hq,Nat.add_mul_mod_self_left]
 have hy:y/2^r<2^(64-r):=by
  rw [Nat.div_lt_iff_lt_mul (Nat.two_pow_pos _),Nat.mul_comm,← hp];exact hlt
 have hm:x*2^(64-r)%18446744073709551616=(x%2^r)*2^(64-r):=by
  rw [hp,Nat.mul_mod_mul_right]
 have hb:(x%2^r)*2^(64-r)+2^(64-r)≤18446744073709551616:=by
  have:=Nat.mod_lt x (Nat.two_pow_pos r)
  calc (x%2^r)*2^(64-r)+2^(64-r)=(x%2^r+1)*2^(64-r):=by rw [Nat.add_mul,Nat.one_mul]
   _≤2^r*2^(64-r):=Nat.mul_le_mul_right _ this
   _=18446744073709551616:=hp.symm
 have hdm:=Nat.div_add_mod (x*2^(64-r)) 18446744073709551616
 rw [← hm] at hb
 generalize y/2^r=a at *
 generalize 2^(64-r)=P at *
 generalize x*P=b at *
 omega
theorem wdn_down_or (N r i:Nat) (hr:r≤64):(wdn N i/2^r) ||| (wdn N (i+1)*2^(64-r)%18446744073709551616)=wdn (N/2^r) i:=by
 have hp:(18446744073709551616:Nat)=2^r*2^(64-r):=by rw [← Nat.pow_add,show r+(64-r)=64 by omega]
 rw [wdn_down N r i hr,Nat.or_comm]
 conv=>lhs;rw [hp,Nat.mul_mod_mul_right]
 rw [or_parts]
 ·rw [← Nat.mul_mod_mul_right,← hp,Nat.add_comm]
 ·rw [Nat.div_lt_iff_lt_mul (Nat.two_pow_pos _),Nat.mul_comm,← hp];exact wdn_lt N i
theorem setw_down (M i:Nat):setw (M/2^(64*(i+1))*2^(64*(i+1))) i (wdn M i)=M/2^(64*i)*2^(64*i):=by
 rw [setw_quo]
 congr 1
 rw [div_step M i];omega
/-! ### What is left over -/
theorem rest_bit (N m:Nat):(N%2^(64*(m+1))≠0)↔(N%2^(64*m)≠0∨wdn N m≠0):=by
 rw [cut_succ]
 have:=Nat.two_pow_pos (64*m)
 constructor
 ·intro h
  by_cases h1:N%2^(64*m)=0
  ·right;intro h2;apply h;rw [h1,h2];rfl
  ·exact .inl h1
 ·rintro (h|h) h0
  ·omega
  ·have h3:2^(64*m)*wdn N m=0:=by omega
   rcases Nat.mul_eq_zero.1 h3 with h4|h4
   ·omega
   ·exact h h4
theorem rest_part (N d r:Nat) (hr:r≤64):(N%2^(64*d+r)≠0)↔(N%2^(64*d)≠0∨wdn N d*2^(64-r)%18446744073709551616≠0):=by
 have hp:(18446744073709551616:Nat)=2^r*2^(64-r):=by rw [← Nat.pow_add,show r+(64-r)=64 by omega]
 have e1:wdn N d*2^(64-r)%18446744073709551616=(N/2^(64*d)%2^r)*2^(64-r):=by
  rw [hp,Nat.mul_mod_mul_right]
  congr 1
  show N/2^(64*d)%18446744073709551616%2^r=_
  rw [hp,Nat.mod_mul_right_mod]
 rw [e1,Nat.pow_add,Nat.mod_mul]
 have:=Nat.two_pow_pos (64*d)
 have:=Nat.two_pow_pos (64-r)
 generalize N/2^(64*d)%2^r=x
 constructor
 ·intro h
  by_cases h1:N%2^(64*d)=0
  ·right;intro h2;apply h
   rcases Nat.mul_eq_zero.1 h2 with h4|h4
   ·rw [h1,h4];rfl
   ·omega
  ·exact .inl h1
 ·rintro (h|h) h0
  ·omega
  ·apply h
   have h3:2^(64*d)*x=0:=by omega
   rcases Nat.mul_eq_zero.1 h3 with h4|h4
   ·omega
   ·rw [h4,Nat.zero_mul]
/-! ### Roots -/
def rt:Nat→Nat
 | 0=>0
 | n+1=>if (rt n+1)*(rt n+1)≤n+1 then rt n+1 else rt n
theorem rt_spec (n:Nat):rt n*rt n≤n∧n<(rt n+1)*(rt n+1):=by
 induction n with
 | zero=>simp [rt]
 | succ n ih =>
  unfold rt
  split
  ·rename_i h
   refine ⟨h,?_⟩
   have:(rt n+1+1)*(rt n+1+1)=(rt n+1)*(rt n+1)+2*rt n+3:=by grind
   omega
  ·exact ⟨by omega,by omega⟩
theorem sq_mono {a b:Nat} (h:a≤b):a*a≤b*b:=Nat.mul_le_mul h h
theorem rt_unique {n r:Nat} (h1:r*r≤n) (h2:n<(r+1)*(r+1)):rt n=r:=by
 have:=rt_spec n
 rcases Nat.lt_trichotomy (rt n) r with h|h|h
 ·have:=sq_mono (show rt n+1≤r from h);omega
 ·exact h
 ·have:=sq_mono (show r+1≤rt n from h);omega
theorem newton_stop {N x:Nat} (hx:0<x) (hi:N<(x+1)*(x+1)) (h:x≤(x+N/x)/2):rt N=x:=by
 refine rt_unique ?_ hi
 exact (Nat.le_div_iff_mul_le hx).1 (by omega)
theorem newton_step {N x:Nat} (hx:0<x):N<((x+N/x)/2+1)*((x+N/x)/2+1):=by
 have h1:N<(N/x+1)*x:=by
  have:=Nat.div_add_mod N x
  have:=Nat.mod_lt N hx
  rw [Nat.add_mul,Nat.mul_comm (N/x),Nat.one_mul];omega
 generalize hq:N/x=q at *
 have h2:x+q+1≤2*((x+q)/2+1):=by omega
 generalize (x+q)/2+1=y at *
 have h3:=sq_mono h2
 have h4:(2*y)*(2*y)=4*(y*y):=by grind
 have h5:4*((q+1)*x)≤(x+q+1)*(x+q+1):=by
  rcases Nat.le_total x (q+1) with h|h
  ·obtain ⟨d,hd⟩:=Nat.exists_eq_add_of_le h
   have:x+q+1=x+(x+d):=by omega
   rw [this,hd];grind
  ·obtain ⟨d,hd⟩:=Nat.exists_eq_add_of_le h
   have:x+q+1=(q+1+d)+(q+1):=by omega
   rw [this,hd];grind
 omega
theorem newton_first (N k:Nat) (h:bl N≤2*k):N<(2^k+1)*(2^k+1):=by
 have h1:=(bl_le_iff N (2*k)).1 h
 rw [Nat.two_mul,Nat.pow_add] at h1
 exact Nat.lt_of_lt_of_le h1 (sq_mono (Nat.le_succ _))

def Tried (X c a b q r:Nat):Prop:=q*a+r=X∧(X*4294967296+c)/(a*4294967296+b)≤q∧q≤4294967297
theorem half_first (X c a b:Nat) (ha:2147483648≤a) (hb:b<4294967296) (hc:c<4294967296) (hX:X<a*4294967296+b):Tried X c a b (X/a) (X%a):=by
 refine ⟨by rw [Nat.mul_comm];exact Nat.div_add_mod X a,?_,?_⟩
 ·have h:=est (X*4294967296+c) (a*4294967296+b) 4294967296 a (by omega) (by decide) (by omega)
  have e:(X*4294967296+c)/4294967296=X:=by omega
  rwa [e] at h
 · have h1 : X / a < 4294967298 := by
     rw [Nat.div_lt_iff_lt_mul (by omega)];omega
   omega
theorem half_lt (X c a b:Nat) (hc:c<4294967296) (hX:X<a*4294967296+b):(X*4294967296+c)/(a*4294967296+b)<4294967296:=by
 rw [Nat.div_lt_iff_lt_mul (by omega)];omega
theorem half_great (X c a b q r:Nat) (h:Tried X c a b q r) (hX:X<a*4294967296+b) (hgt:4294967296*r+c<q*b):(X*4294967296+c)/(a*4294967296+b)<q:=by
 obtain ⟨h1,_,_⟩:=h
 rw [Nat.div_lt_iff_lt_mul (by omega),← h1]
 have e:q*(a*4294967296+b)=q*a*4294967296+q*b:=by rw [Nat.mul_add,Nat.mul_assoc]
 omega
theorem half_dec (X c a b q r:Nat) (h:Tried X c a b q r) (hlt:(X*4294967296+c)/(a*4294967296+b)<q):Tried X c a b (q-1) (r+a):=by
 obtain ⟨h1,h2,h3⟩:=h
 have h0:=Nat.lt_of_le_of_lt (Nat.zero_le _) hlt
 obtain ⟨p,rfl⟩:∃ p,q=p+1:=⟨q-1,by omega⟩
 refine ⟨?_,Nat.le_of_lt_succ hlt,by omega⟩
 rw [Nat.add_mul,Nat.one_mul] at h1
 rw [Nat.add_sub_cancel];omega
theorem half_done (X c a b q r:Nat) (h:Tried X c a b q r) (hX:X<a*4294967296+b) (hle:q*b≤4294967296*r+c):q=(X*4294967296+c)/(a*4294967296+b):=by
 obtain ⟨h1,h2,_⟩:=h
 have:q≤(X*4294967296+c)/(a*4294967296+b):=by
  rw [Nat.le_div_iff_mul_le (by omega),← h1]
  have e:q*(a*4294967296+b)=q*a*4294967296+q*b:=by rw [Nat.mul_add,Nat.mul_assoc]
  omega
 exact Nat.le_antisymm this h2
theorem half_break (X c a b q r:Nat) (h:Tried X c a b q r) (hX:X<a*4294967296+b) (hb:b<4294967296) (hq:q≤4294967296) (hr:4294967296≤r):q=(X*4294967296+c)/(a*4294967296+b):=by
 refine half_done X c a b q r h hX ?_
 have:q*b≤4294967296*4294967295:=Nat.mul_le_mul hq (by omega)
 omega
theorem half_ways (X c a b q r Y:Nat) (T:Tried X c a b q r) (hY:Y=a*4294967296+b) (hX:X<a*4294967296+b) (hc:c<4294967296) (hb:b<4294967296) :
  ((4294967296≤q∨4294967296*r+c<q*b)→∃ p ra,q=p+1∧ra=r+a∧Tried X c a b p ra∧(4294967296≤ra→p=(X*4294967296+c)/Y)) ∧
   (¬ (4294967296≤q∨4294967296*r+c<q*b)→q=(X*4294967296+c)/Y):=by
 subst hY
 constructor
 ·intro hg
  have hlt:(X*4294967296+c)/(a*4294967296+b)<q:=by
   rcases hg with hg|hg
   ·exact Nat.lt_of_lt_of_le (half_lt X c a b hc hX) hg
   ·exact half_great X c a b q r T hX hg
  have hpos:=Nat.lt_of_le_of_lt (Nat.zero_le _) hlt
  have t3:=T.2.2
  refine ⟨q-1,r+a,by omega,rfl,half_dec X c a b q r T hlt,fun hr=>?_⟩
  exact half_break X c a b (q-1) (r+a) (half_dec X c a b q r T hlt) hX hb (by omega) hr
 ·intro hg
  exact half_done X c a b q r T hX (by omega)
theorem rest_wrap (X c P R y:Nat) (hR:R<y) (hy:y≤18446744073709551616) (h:P+R=X*4294967296+c) (_hX:X<18446744073709551616) (_hc:c<4294967296) :
  ((((X:Int)*4294967296)%18446744073709551616+c)%18446744073709551616-(P:Int)%18446744073709551616)%18446744073709551616=(R:Int):=by
 have:(((X:Int)*4294967296)%18446744073709551616+c)%18446744073709551616=((X:Int)*4294967296+c)%18446744073709551616:=by omega
 rw [this]
 have h2:(X:Int)*4294967296+c=P+R:=by omega
 rw [h2]
 omega
theorem div64_aux (z c0 Y:Nat) (hY:0<Y):z/Y*4294967296+(z%Y*4294967296+c0)/Y=(z*4294967296+c0)/Y∧(z%Y*4294967296+c0)%Y/1=(z*4294967296+c0)%Y:=by
 have h1:=Nat.div_add_mod z Y
 generalize z/Y=q at *
 generalize z%Y=r at *
 have e3:z*4294967296+c0=(r*4294967296+c0)+Y*(q*4294967296):=by
  rw [← h1,Nat.add_mul,Nat.mul_assoc];omega
 rw [e3,Nat.add_mul_div_left _ _ hY,Nat.add_mul_mod_self_left,Nat.div_one]
 exact ⟨Nat.add_comm _ _,rfl⟩
theorem div64_parts (h l y s X c0 c1:Nat) (hX:X*18446744073709551616+(c1*4294967296+c0)=(h*18446744073709551616+l)*2^s) (_hc0:c0<4294967296) (hy:0<y) (_hlt:X<y*2^s) :
  (X*4294967296+c1)/(y*2^s)*4294967296+((X*4294967296+c1)%(y*2^s)*4294967296+c0)/(y*2^s)=(h*18446744073709551616+l)/y ∧
   ((X*4294967296+c1)%(y*2^s)*4294967296+c0)%(y*2^s)/2^s=(h*18446744073709551616+l)%y:=by
 have hY:0<y*2^s:=Nat.mul_pos hy (Nat.two_pow_pos s)
 have e0:(h*18446744073709551616+l)*2^s=(X*4294967296+c1)*4294967296+c0:=by omega
 have e1:=div_scale (h*18446744073709551616+l) y s
 have e2:=mod_scale (h*18446744073709551616+l) y s
 rw [e0] at e1 e2
 rw [← e1,← e2]
 have h:=div64_aux (X*4294967296+c1) c0 (y*2^s) hY
 exact ⟨h.1,by rw [← h.2,Nat.div_one]⟩
theorem div64_shift (h l y s:Nat) (hs:s≤64) (hy:y*2^s<18446744073709551616) (hh:h<y) (hl:l<18446744073709551616) :
  (h*2^s%18446744073709551616) ||| (l/2^(64-s))=h*2^s+l/2^(64-s)∧h*2^s+l/2^(64-s)<y*2^s ∧
   (h*2^s+l/2^(64-s))*18446744073709551616+l*2^s%18446744073709551616=(h*18446744073709551616+l)*2^s:=by
 have hp:(18446744073709551616:Nat)=2^s*2^(64-s):=by rw [← Nat.pow_add,show s+(64-s)=64 by omega]
 have h1:l/2^(64-s)<2^s:=by rw [Nat.div_lt_iff_lt_mul (Nat.two_pow_pos _),← hp];exact hl
 have h2:h*2^s+2^s≤y*2^s:=by
  have:(h+1)*2^s≤y*2^s:=Nat.mul_le_mul_right _ hh
  rwa [Nat.add_mul,Nat.one_mul] at this
 have h0:=Nat.two_pow_pos s
 refine ⟨?_,by omega,?_⟩
 ·rw [Nat.mod_eq_of_lt (by omega),or_parts _ _ _ h1]
 · have h3 : l * 2 ^ s / 18446744073709551616 = l / 2 ^ (64 - s) := by
     conv=>lhs;rw [hp]
     rw [Nat.mul_comm l,Nat.mul_div_mul_left _ _ (Nat.two_pow_pos _)]
   have h4:=Nat.div_add_mod (l*2^s) 18446744073709551616
   rw [h3] at h4
   rw [Nat.add_mul,Nat.add_mul]
   have h5:h*18446744073709551616*2^s=h*2^s*18446744073709551616:=Nat.mul_right_comm _ _ _
   omega
theorem norm_word (y:Nat) (h0:y≠0) (hy:y<18446744073709551616):bl y≤64∧y*2^(64-bl y)<18446744073709551616∧9223372036854775808≤y*2^(64-bl y):=by
 have h1:bl y≤64:=(bl_le_iff y 64).2 hy
 have h2:=bl_lt y
 have h3:=bl_le_self y h0
 have h4:=bl_pos y h0
 have hp:(18446744073709551616:Nat)=2^bl y*2^(64-bl y):=by rw [← Nat.pow_add,show bl y+(64-bl y)=64 by omega]
 have hp2:(9223372036854775808:Nat)=2^(bl y-1)*2^(64-bl y):=by rw [← Nat.pow_add,show bl y-1+(64-bl y)=63 by omega]
 refine ⟨h1,?_,?_⟩
 ·rw [hp];exact Nat.mul_lt_mul_of_pos_right h2 (Nat.two_pow_pos _)
 ·rw [hp2];exact Nat.mul_le_mul_right _ h3
theorem with_imp {P Q R:Prop} (h:P→Q) (hp:P) (k:Q→R):R:=k (h hp)
end Go.Proofs.YtechbdnhalmobaaGreatDoor
