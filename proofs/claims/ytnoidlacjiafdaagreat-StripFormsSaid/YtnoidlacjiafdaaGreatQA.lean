/- Laws and walks that the claim names. -/
import Derived.Test.YtnoidlacjiafdaaGreatRC
import Derived.Deep.AppendSrc
import Derived.Deep.CutBlock
import Derived.Deep.LoopGhost
set_option maxRecDepth 100000
set_option maxHeartbeats 16000000
namespace Go.Proofs.YtnoidlacjiafdaaGreat
set_option linter.unusedSimpArgs false
set_option linter.unusedVariables false
theorem nO (f:Nat→Nat) (hf:∀ i,f i<4294967296) (L i:Nat) (h:i<L):nvf f L/4294967296^i%4294967296=f i:=by
 induction L with
 | zero=>omega
 | succ L ih =>
  show(nvf f L+4294967296^L*f L)/4294967296^i%4294967296=f i;by_cases e:i=L
  ·subst e;rw[Nat.add_mul_div_left _ _ (Nat.pow_pos (by decide)),Nat.div_eq_of_lt (jD f hf i),Nat.zero_add,Nat.mod_eq_of_lt (hf i)]
  ·obtain⟨t,rfl⟩:∃ t,L=i+(t+1):=⟨L-i-1,by omega⟩;rw[Nat.pow_add,Nat.mul_assoc,Nat.add_mul_div_left _ _ (Nat.pow_pos (by decide)),Nat.pow_succ,Nat.mul_assoc,Nat.mul_comm _ (4294967296*_),Nat.mul_assoc,Nat.add_mul_mod_self_left];exact ih (by omega)
/-! ### The estimate of a digit -/
structure Est (X c a b d q r:Nat):Prop where
 eq:q*a+r=X
 low:d≤q
 top:q≤4294967297
 rest:r<4294967296
structure zP (X c a b d:Nat):Prop where
 a0:2147483648≤a
 a1:a<4294967296
 hb:b<4294967296
 hc:c<4294967296
 hd:d<4294967296
 le:d*(a*4294967296+b)≤X*4294967296+c
 hX:X≤a*4294967296+b
theorem yE {X c a b d:Nat} (h:zP X c a b d):Est X c a b d (X/a) (X%a):=by
 have h0:=h.a0;have h1:=h.a1;have h2:=h.hb;have h3:=h.hc;have h5:=h.le;have h6:=h.hX;refine⟨Nat.div_add_mod' X a,?_,?_,Nat.lt_trans (Nat.mod_lt _ (by omega)) h1⟩
 ·rw[Nat.le_div_iff_mul_le (by omega)];have e:d*(a*4294967296+b)=(d*a)*4294967296+d*b:=by grind
  rw[e] at h5;generalize d*a=p at *;generalize d*b=q at *;omega
 · have : X / a < 4294967298 := by
     rw[Nat.div_lt_iff_lt_mul (by omega)];omega
   omega
theorem oE {X c a b d q r:Nat} (h:zP X c a b d) (e:Est X c a b d q r) (hgt:4294967296≤q∨r*4294967296+c<q*b):d<q:=by
 rcases hgt with hgt|hgt
 ·have:=h.hd;omega
 ·rcases Nat.lt_or_ge d q with h1|h1
  ·exact h1
  ·exfalso;have hdq:d=q:=by have:=e.low;omega
   have h5:=h.le;rw[hdq] at h5;have e1:q*(a*4294967296+b)=(q*a)*4294967296+q*b:=by grind
   have e2:=e.eq;rw[e1] at h5;generalize q*a=p at *;generalize q*b=s at *;omega
theorem uD {X c a b d q r:Nat} (_h:zP X c a b d) (e:Est X c a b d q r) (hlt:d<q) (hr:r+a<4294967296):Est X c a b d (q-1) (r+a):=by
 refine⟨?_,by omega,by have:=e.top;omega,hr⟩;obtain⟨p,rfl⟩:∃ p,q=p+1:=⟨q-1,by omega⟩;have:=e.eq;rw[Nat.add_mul] at this;rw[Nat.add_sub_cancel];omega
def Cz (X c a b d q:Nat):Prop:=q<4294967296∧d≤q∧q*(a*4294967296+b)≤X*4294967296+c
theorem yF {X c a b d q r:Nat} (e:Est X c a b d q r) (hq:q<4294967296) (hle:q*b≤r*4294967296+c):Cz X c a b d q:=by
 refine⟨hq,e.low,?_⟩;have e1:q*(a*4294967296+b)=(q*a)*4294967296+q*b:=by grind
 have e2:=e.eq;rw[e1];generalize q*a=p at *;generalize q*b=s at *;omega
theorem oF {X c a b d q r:Nat} (h:zP X c a b d) (e:Est X c a b d q r) (hlt:d<q) (hr:4294967296≤r+a):Cz X c a b d (q-1):=by
 have hX:=h.hX;have hb:=h.hb
 have h1:q≤4294967296:=by
  rcases Nat.lt_or_ge 4294967296 q with h1|h1
  ·exfalso;have hq:q=4294967297:=by have:=e.top;omega
   have:=e.eq;rw[hq] at this;omega
  ·exact h1
 obtain⟨p,rfl⟩:∃ p,q=p+1:=⟨q-1,by omega⟩;rw[Nat.add_sub_cancel];refine⟨by omega,by omega,?_⟩;have e1:p*(a*4294967296+b)=(p*a)*4294967296+p*b:=by grind
 have e2:=e.eq;rw[Nat.add_mul] at e2;have h3:p*b≤4294967296*4294967296:=Nat.mul_le_mul (by omega) (by omega);rw[e1];generalize p*a=s at *;generalize p*b=t at *;omega
theorem Gr (U V n j:Nat) (hn:2≤n) (hV:V<4294967296^n) (hV2:2147483648*4294967296^(n-1)≤V) (hU:U<V*4294967296^(j+1)) :
  zP (U/4294967296^(j+n-1)) (U/4294967296^(j+n-2)%4294967296) (V/4294967296^(n-1)) (V/4294967296^(n-2)%4294967296) (U/(V*4294967296^j)):=by
 have hp1:0<4294967296^(n-1):=Nat.pow_pos (by decide);have hp2:0<4294967296^(n-2):=Nat.pow_pos (by decide);have hpj:0<4294967296^j:=Nat.pow_pos (by decide);have hpp:0<4294967296^(j+n-2):=Nat.pow_pos (by decide);have eP:(4294967296:Nat)^(j+n-2)=4294967296^j*4294967296^(n-2):=by rw[← Nat.pow_add];congr 1;omega
 have hVd:V/4294967296^(n-1)*4294967296+V/4294967296^(n-2)%4294967296=V/4294967296^(n-2):=by
  have:V/4294967296^(n-1)=V/4294967296^(n-2)/4294967296:=by rw[Nat.div_div_eq_div_mul,← Nat.pow_succ];congr 2;omega
  rw[this];exact Nat.div_add_mod' _ _
 have hUd:U/4294967296^(j+n-1)*4294967296+U/4294967296^(j+n-2)%4294967296=U/4294967296^(j+n-2):=by
  have:U/4294967296^(j+n-1)=U/4294967296^(j+n-2)/4294967296:=by rw[Nat.div_div_eq_div_mul,← Nat.pow_succ];congr 2;omega
  rw[this];exact Nat.div_add_mod' _ _
 have hV0:0<V:=by have:=Nat.mul_pos (show 0<2147483648 by decide) hp1;omega
 have hW:0<V*4294967296^j:=Nat.mul_pos hV0 hpj
 have hlow:V/4294967296^(n-2)*4294967296^(j+n-2)≤V*4294967296^j:=by
  rw[eP,Nat.mul_comm (4294967296^j),← Nat.mul_assoc];exact Nat.mul_le_mul_right _ (Nat.div_mul_le_self _ _)
 have hhigh:V*4294967296^j<(V/4294967296^(n-2)+1)*4294967296^(j+n-2):=by
  rw[eP,Nat.mul_comm (4294967296^j),← Nat.mul_assoc];refine Nat.mul_lt_mul_of_pos_right ?_ hpj;have:=Nat.lt_mul_div_succ V hp2;rw[Nat.mul_comm];exact this
 refine⟨?_,?_,Nat.mod_lt _ (by decide),Nat.mod_lt _ (by decide),?_,?_,?_⟩
 ·rw[Nat.le_div_iff_mul_le hp1];exact hV2
 ·rw[Nat.div_lt_iff_lt_mul hp1];rw[show(4294967296:Nat)*4294967296^(n-1)=4294967296^n by rw[Nat.mul_comm,← Nat.pow_succ];congr 1;omega];exact hV
 ·rw[Nat.div_lt_iff_lt_mul hW];rw[Nat.pow_succ] at hU;have:V*(4294967296^j*4294967296)=4294967296*(V*4294967296^j):=by grind
  omega
 ·rw[hVd,hUd,Nat.le_div_iff_mul_le hpp,Nat.mul_assoc];exact Nat.le_trans (Nat.mul_le_mul_left _ hlow) (Nat.div_mul_le_self _ _)
 ·rw[hVd]
  have h1:U/4294967296^(j+n-2)<(V/4294967296^(n-2)+1)*4294967296:=by
   rw[Nat.div_lt_iff_lt_mul hpp];rw[Nat.pow_succ] at hU;have e1:V*(4294967296^j*4294967296)=(V*4294967296^j)*4294967296:=by grind
   rw[e1] at hU;have e2:(V/4294967296^(n-2)+1)*4294967296*4294967296^(j+n-2)=(V/4294967296^(n-2)+1)*4294967296^(j+n-2)*4294967296:=by grind
   rw[e2];exact Nat.lt_trans hU (Nat.mul_lt_mul_of_pos_right hhigh (by decide))
  rw[← hUd] at h1;have key:∀ X c v:Nat,X*4294967296+c<(v+1)*4294967296→X≤v:=by omega
  exact key _ _ _ h1
theorem sW (U V n j q:Nat) (hn:2≤n) (hV2:2147483648*4294967296^(n-1)≤V)
  (h:Cz (U/4294967296^(j+n-1)) (U/4294967296^(j+n-2)%4294967296) (V/4294967296^(n-1)) (V/4294967296^(n-2)%4294967296) (U/(V*4294967296^j)) q) :
  q=U/(V*4294967296^j)∨q=U/(V*4294967296^j)+1:=by
 obtain⟨hq,hle,h⟩:=h;have hp1:0<4294967296^(n-1):=Nat.pow_pos (by decide);have hp2:0<4294967296^(n-2):=Nat.pow_pos (by decide);have hpj:0<4294967296^j:=Nat.pow_pos (by decide);have hpp:0<4294967296^(j+n-2):=Nat.pow_pos (by decide);have eP:(4294967296:Nat)^(j+n-2)=4294967296^j*4294967296^(n-2):=by rw[← Nat.pow_add];congr 1;omega
 have hVd:V/4294967296^(n-1)*4294967296+V/4294967296^(n-2)%4294967296=V/4294967296^(n-2):=by
  have:V/4294967296^(n-1)=V/4294967296^(n-2)/4294967296:=by rw[Nat.div_div_eq_div_mul,← Nat.pow_succ];congr 2;omega
  rw[this];exact Nat.div_add_mod' _ _
 have hUd:U/4294967296^(j+n-1)*4294967296+U/4294967296^(j+n-2)%4294967296=U/4294967296^(j+n-2):=by
  have:U/4294967296^(j+n-1)=U/4294967296^(j+n-2)/4294967296:=by rw[Nat.div_div_eq_div_mul,← Nat.pow_succ];congr 2;omega
  rw[this];exact Nat.div_add_mod' _ _
 have hV0:0<V:=by have:=Nat.mul_pos (show 0<2147483648 by decide) hp1;omega
 have hW:0<V*4294967296^j:=Nat.mul_pos hV0 hpj
 have hhigh:V*4294967296^j<(V/4294967296^(n-2)+1)*4294967296^(j+n-2):=by
  rw[eP,Nat.mul_comm (4294967296^j),← Nat.mul_assoc];refine Nat.mul_lt_mul_of_pos_right ?_ hpj;have:=Nat.lt_mul_div_succ V hp2;rw[Nat.mul_comm];exact this
 have hbig:q*4294967296^(j+n-2)≤V*4294967296^j:=by
  have h1:4294967296*4294967296^(n-2)≤V:=by
   rw[show(4294967296:Nat)*4294967296^(n-2)=4294967296^(n-1) by rw[Nat.mul_comm,← Nat.pow_succ];congr 1;omega];omega
  rw[eP,Nat.mul_comm (4294967296^j),← Nat.mul_assoc];refine Nat.mul_le_mul_right _ (Nat.le_trans (Nat.mul_le_mul_right _ (by omega:q≤4294967296)) h1)
 rw[hVd,hUd,Nat.le_div_iff_mul_le hpp] at h;rcases Nat.eq_zero_or_pos q with h0|h0
 ·left;rw[h0] at hle ⊢;exact(Nat.le_zero.1 hle).symm
 · have h2 : q * (V * 4294967296 ^ j) < U + V * 4294967296 ^ j := by
     have h3:q*(V*4294967296^j)<q*((V/4294967296^(n-2)+1)*4294967296^(j+n-2)):=Nat.mul_lt_mul_of_pos_left hhigh h0;have h4:q*((V/4294967296^(n-2)+1)*4294967296^(j+n-2))=q*(V/4294967296^(n-2))*4294967296^(j+n-2)+q*4294967296^(j+n-2):=by grind
     rw[h4] at h3;exact Nat.lt_of_lt_of_le h3 (Nat.add_le_add h hbig)
   have h5:(q-1)*(V*4294967296^j)≤U:=by
    obtain⟨p,rfl⟩:∃ p,q=p+1:=⟨q-1,by omega⟩;rw[Nat.add_mul] at h2;rw[Nat.add_sub_cancel];omega
   have h6:q-1≤U/(V*4294967296^j):=by rw[Nat.le_div_iff_mul_le hW];exact h5
   omega
/-! ### A digit times the divisor, taken away -/
structure Ms (F:Nat→Nat) (c b:Nat) (g:Nat→Nat) (U q j i L:Nat):Prop where
 dig:∀ k,F k<4294967296
 hc:c<4294967296
 hb:b≤1
 val:nvf F L+q*nvf g i*4294967296^j=U+(b+c)*4294967296^(i+j)
theorem yf {F g:Nat→Nat} {U q j L:Nat} (hF:∀ k,F k<4294967296) (h:nvf F L=U):Ms F 0 0 g U q j 0 L :=
 ⟨hF,by decide,by decide,by rw[h];show U+q*0*_=U+(0+0)*_;simp⟩
def mdig (x y b:Nat):Nat:=(x+4294967296-y-b)%4294967296
def mbor (x y b:Nat):Nat:=if x<y+b then 1 else 0
theorem ui (x y b:Nat) (hy:y<4294967296) (hx:x<4294967296) (hb:b≤1):mdig x y b+y+b=x+4294967296*mbor x y b:=by
 unfold mdig mbor;split <;> omega
theorem uh (x y b:Nat):mdig x y b<4294967296:=Nat.mod_lt _ (by decide)
theorem uj (x y b:Nat):mbor x y b≤1:=by unfold mbor;split <;> omega
theorem Bi {F g:Nat→Nat} {c b U q j i L:Nat} (h:Ms F c b g U q j i L) (hq:q<4294967296) (hg:g i<4294967296) (hL:i+j<L) :
  Ms (setD F (i+j) (mdig (F (i+j)) ((c+q*g i)%4294967296) b)) ((c+q*g i)/4294967296) (mbor (F (i+j)) ((c+q*g i)%4294967296) b) g U q j (i+1) L:=by
 have hqg:q*g i≤4294967295*4294967295:=Nat.mul_le_mul (by omega) (by omega);have hcc:=h.hc;refine⟨ej h.dig _ _ (uh _ _ _),by omega,uj _ _ _,?_⟩;have h1:=en F (i+j) (mdig (F (i+j)) ((c+q*g i)%4294967296) b) L hL;have h2:=ui (F (i+j)) ((c+q*g i)%4294967296) b (Nat.mod_lt _ (by decide)) (h.dig _) h.hb;have h3:=Nat.div_add_mod (c+q*g i) 4294967296;have hv:=h.val;show _+q*(nvf g i+4294967296^i*g i)*4294967296^j=_;rw[show i+1+j=i+j+1 by omega,Nat.pow_succ];rw[Nat.pow_add] at *;generalize nvf (setD F (i+j) (mdig (F (i+j)) ((c+q*g i)%4294967296) b)) L=A' at *;generalize nvf F L=A at *;generalize mdig (F (i+j)) ((c+q*g i)%4294967296) b=v at *;generalize mbor (F (i+j)) ((c+q*g i)%4294967296) b=b' at *;generalize (c+q*g i)%4294967296=low at *;generalize (c+q*g i)/4294967296=c' at *;generalize F (i+j)=x at *;generalize nvf g i=G at *;generalize 4294967296^i=I at *;generalize 4294967296^j=J at *
 have e1:I*J*v+I*J*low+I*J*b=I*J*x+I*J*4294967296*b':=by
  have:I*J*(v+low+b)=I*J*(x+4294967296*b'):=by rw[h2]
  grind
 have e2:I*J*4294967296*c'+I*J*low=I*J*c+I*J*(q*g i):=by
  have:I*J*(4294967296*c'+low)=I*J*(c+q*g i):=by rw[h3]
  grind
 have e3:q*(G+I*g i)*J=q*G*J+I*J*(q*g i):=by grind
 have e4:(b'+c')*(I*J*4294967296)=I*J*4294967296*b'+I*J*4294967296*c':=by grind
 have e5:(b+c)*(I*J)=I*J*b+I*J*c:=by grind
 rw[e3,e4];rw[e5] at hv;omega
theorem ye {F g:Nat→Nat} {c b U q j n L:Nat} (h:Ms F c b g U q j n L) (hL:n+j<L) :
  nvf (setD F (n+j) (mdig (F (n+j)) c b)) L+q*nvf g n*4294967296^j=U+mbor (F (n+j)) c b*4294967296^(n+j+1):=by
 have h1:=en F (n+j) (mdig (F (n+j)) c b) L hL;have h2:=ui (F (n+j)) c b h.hc (h.dig _) h.hb;have hv:=h.val;rw[Nat.pow_succ];generalize nvf (setD F (n+j) (mdig (F (n+j)) c b)) L=A' at *;generalize nvf F L=A at *;generalize mdig (F (n+j)) c b=v at *;generalize mbor (F (n+j)) c b=b' at *;generalize F (n+j)=x at *;generalize q*nvf g n*4294967296^j=T at *;generalize 4294967296^(n+j)=I at *
 have e1:I*v+I*c+I*b=I*x+I*4294967296*b':=by
  have:I*(v+c+b)=I*(x+4294967296*b'):=by rw[h2]
  grind
 have e4:b'*(I*4294967296)=I*4294967296*b':=by grind
 have e5:(b+c)*I=I*b+I*c:=by grind
 rw[e4];rw[e5] at hv;omega
/-! ### The divisor added back -/
structure Ab (F:Nat→Nat) (c:Nat) (g:Nat→Nat) (A j i L:Nat):Prop where
 dig:∀ k,F k<4294967296
 hc:c≤1
 val:nvf F L+c*4294967296^(i+j)=A+nvf g i*4294967296^j
theorem zL {F g:Nat→Nat} {A j L:Nat} (hF:∀ k,F k<4294967296) (h:nvf F L=A):Ab F 0 g A j 0 L :=
 ⟨hF,by decide,by rw[h];show A+0*_=A+0*_;simp⟩
theorem Cu {F g:Nat→Nat} {c A j i L:Nat} (h:Ab F c g A j i L) (hg:g i<4294967296) (hL:i+j<L) :
  Ab (setD F (i+j) ((c+F (i+j)+g i)%4294967296)) ((c+F (i+j)+g i)/4294967296) g A j (i+1) L:=by
 have hF:=h.dig (i+j);have hcc:=h.hc;refine⟨ej h.dig _ _ (Nat.mod_lt _ (by decide)),by omega,?_⟩;have h1:=en F (i+j) ((c+F (i+j)+g i)%4294967296) L hL;have h3:=Nat.div_add_mod (c+F (i+j)+g i) 4294967296;have hv:=h.val;show _=A+(nvf g i+4294967296^i*g i)*4294967296^j;rw[show i+1+j=i+j+1 by omega,Nat.pow_succ];rw[Nat.pow_add] at *;generalize nvf (setD F (i+j) ((c+F (i+j)+g i)%4294967296)) L=A' at *;generalize nvf F L=A0 at *;generalize (c+F (i+j)+g i)%4294967296=low at *;generalize (c+F (i+j)+g i)/4294967296=c' at *;generalize F (i+j)=x at *;generalize nvf g i=G at *;generalize 4294967296^i=I at *;generalize 4294967296^j=J at *
 have e2:I*J*4294967296*c'+I*J*low=I*J*c+I*J*x+I*J*g i:=by
  have:I*J*(4294967296*c'+low)=I*J*(c+x+g i):=by rw[h3]
  grind
 have e3:(G+I*g i)*J=G*J+I*J*g i:=by grind
 have e4:c'*(I*J*4294967296)=I*J*4294967296*c':=by grind
 have e5:c*(I*J)=I*J*c:=by grind
 rw[e3,e4];rw[e5] at hv;omega
theorem zK {F g:Nat→Nat} {c A j n L:Nat} (h:Ab F c g A j n L) (hL:n+j<L) :
  nvf (setD F (n+j) ((F (n+j)+c)%4294967296)) L+(F (n+j)+c)/4294967296*4294967296^(n+j+1)=A+nvf g n*4294967296^j:=by
 have h1:=en F (n+j) ((F (n+j)+c)%4294967296) L hL;have h3:=Nat.div_add_mod (F (n+j)+c) 4294967296;have hv:=h.val;rw[Nat.pow_succ];generalize nvf (setD F (n+j) ((F (n+j)+c)%4294967296)) L=A' at *;generalize nvf F L=A0 at *;generalize (F (n+j)+c)%4294967296=low at *;generalize (F (n+j)+c)/4294967296=c' at *;generalize F (n+j)=x at *;generalize nvf g n*4294967296^j=T at *;generalize 4294967296^(n+j)=I at *
 have e2:I*4294967296*c'+I*low=I*x+I*c:=by
  have:I*(4294967296*c'+low)=I*(x+c):=by rw[h3]
  grind
 have e4:c'*(I*4294967296)=I*4294967296*c':=by grind
 have e5:c*I=I*c:=by grind
 rw[e4];rw[e5] at hv;omega
/-! ### One digit of the quotient -/
theorem tC (A U W q:Nat) (hW:0<W) (h:A+q*W=U) (hq:q=U/W∨q=U/W+1):q=U/W∧A=U%W:=by
 have h1:=Nat.div_add_mod U W;have h2:=Nat.mod_lt U hW;generalize U/W=d at *;generalize U%W=r at *
 have hq':q=d:=by
  rcases hq with hq|hq
  ·exact hq
  ·exfalso;rw[hq,Nat.add_mul,Nat.mul_comm d] at h;omega
 refine⟨hq',?_⟩;rw[hq',Nat.mul_comm d] at h;omega
theorem ro (A A1 U W q k P:Nat) (hW:0<W) (hP:W≤P) (h:A+q*W=U+P) (hA:A<P) (h1:A1+k*P=A+W) (hA1:A1<P) (hq:q=U/W∨q=U/W+1):q-1=U/W∧A1=U%W:=by
 have h2:=Nat.div_add_mod U W;have h3:=Nat.mod_lt U hW;generalize U/W=d at *;generalize U%W=r at *
 have hq':q=d+1:=by
  rcases hq with hq|hq
  ·exfalso;rw[hq,Nat.mul_comm d] at h;omega
  ·exact hq
 refine⟨by omega,?_⟩;rw[hq',Nat.add_mul,Nat.mul_comm d] at h;have hk:A1+k*P=r+P:=by omega
 have hk1:k=1:=by
  rcases Nat.lt_or_ge k 1 with h4|h4
  ·have:k=0:=by omega
   rw[this] at hk;omega
  ·rcases Nat.lt_or_ge 1 k with h5|h5
   ·exfalso;have:2*P≤k*P:=Nat.mul_le_mul_right _ h5;omega
   ·omega
 rw[hk1] at hk;omega
structure Qs (F G:Nat→Nat) (U V jj L m1:Nat):Prop where
 digF:∀ k,F k<4294967296
 digG:∀ k,G k<4294967296
 valF:nvf F L=U%(V*4294967296^jj)
 valG:nvf G m1=U/(V*4294967296^jj)*4294967296^jj
 low:∀ k,k<jj→G k=0
theorem xK {F:Nat→Nat} {U V L m1:Nat} (hF:∀ k,F k<4294967296) (h:nvf F L=U) (hU:U<V*4294967296^m1):Qs F (fun _=>0) U V m1 L m1 :=
 ⟨hF,fun _=>by decide,by rw[h,Nat.mod_eq_of_lt hU],by rw[mp,Nat.div_eq_of_lt hU,Nat.zero_mul],fun _ _=>rfl⟩
theorem xL {F G:Nat→Nat} {U V j L m1:Nat} (h:Qs F G U V (j+1) L m1) (hV:0<V):nvf F L<V*4294967296^(j+1):=by
 rw[h.valF];exact Nat.mod_lt _ (Nat.mul_pos hV (Nat.pow_pos (by decide)))
theorem AY {F G:Nat→Nat} {U V j n L m1:Nat} (h:Qs F G U V (j+1) L m1) (hV0:0<V) (hV:V<4294967296^n) (k:Nat) (h1:n+j<k) (h2:k<L):F k=0:=by
 have h3:=xL h hV0;rw[← nO F h.digF L k h2,Nat.div_eq_of_lt];refine Nat.lt_of_lt_of_le h3 (Nat.le_trans (Nat.mul_le_mul_right _ (Nat.le_of_lt hV)) ?_);rw[← Nat.pow_add];exact Nat.pow_le_pow_right (by decide) (by omega)
theorem tW {F G F':Nat→Nat} {U V j q L m1:Nat} (h:Qs F G U V (j+1) L m1) (hj:j<m1) (hV:0<V) (hF':∀ k,F' k<4294967296) (hq:q=nvf F L/(V*4294967296^j)) (hA:nvf F' L=nvf F L%(V*4294967296^j)) :
  Qs F' (setD G j q) U V j L m1:=by
 have hW:0<V*4294967296^j:=Nat.mul_pos hV (Nat.pow_pos (by decide));have hlt:=xL h hV;have eW:V*4294967296^(j+1)=V*4294967296^j*4294967296:=by rw[Nat.pow_succ,Nat.mul_assoc]
 have hql:q<4294967296:=by rw[hq,Nat.div_lt_iff_lt_mul hW,Nat.mul_comm,← eW];exact hlt
 refine⟨hF',ej h.digG _ _ hql,?_,?_,fun k hk=>?_⟩
 ·rw[hA,h.valF,eW,Nat.mod_mul_right_mod]
 ·have h1:=en G j q m1 hj;rw[h.low j (Nat.lt_succ_self _),Nat.mul_zero,Nat.add_zero] at h1;rw[h1,h.valG,hq,h.valF,eW]
  have h2:U/(V*4294967296^j)=U/(V*4294967296^j*4294967296)*4294967296+U%(V*4294967296^j*4294967296)/(V*4294967296^j):=by
   generalize V*4294967296^j=W;rw[Nat.mod_mul_right_div_self,← Nat.div_div_eq_div_mul];exact(Nat.div_add_mod' _ _).symm
  rw[h2,Nat.pow_succ];generalize U/(V*4294967296^j*4294967296)=a;generalize U%(V*4294967296^j*4294967296)/(V*4294967296^j)=b;generalize 4294967296^j=P;grind
 ·unfold setD;rw[if_neg (by omega)];exact h.low k (by omega)
theorem vH (N b k:Nat) (hb:0<b) :
  ((N/4294967296^(k+1)%b)*4294967296+N/4294967296^k%4294967296)/b+N/4294967296^(k+1)/b*4294967296=N/4294967296^k/b ∧
  ((N/4294967296^(k+1)%b)*4294967296+N/4294967296^k%4294967296)%b=N/4294967296^k%b:=by
 have e:N/4294967296^(k+1)=N/4294967296^k/4294967296:=by rw[Nat.div_div_eq_div_mul,Nat.pow_succ]
 rw[e];generalize N/4294967296^k=K;have h1:=Nat.div_add_mod K 4294967296;generalize K/4294967296=H at *;generalize K%4294967296=l at *;have h2:=Nat.div_add_mod H b
 have e2:K=(H%b*4294967296+l)+b*(H/b*4294967296):=by
  rw[← h1];generalize H/b=x at *;generalize H%b=y at *;rw[← h2];grind
 rw[e2];constructor
 ·rw[Nat.add_mul_div_left _ _ hb]
 ·rw[Nat.add_mul_mod_self_left]
open Go.RowKit
def uT (w w':World) (e:Ending) (N M:Nat):Prop:=(∃ q r,e = .returned (.tuple #[q,r])∧Rd w' q (dg (N/M))∧Rd w' r (dg (N%M)))∧Below w.heap.size w w'
theorem vx (a b:Value) (N M:Nat) (w:World) (ha:Rd w a (dg N)) (hb:Rd w b (dg M)) (h:N<M) :
  Calls Tryz.prog 129 #[a,b] w fun e w'=>uT w w' e N M:=by
 obtain⟨A,ca,rfl⟩:=ha.form;obtain⟨B,cb,rfl⟩:=hb.form;have HA:=Lh ha;have HB:=Lh hb;have HE:=Lh (ln h);have HD:Hid (N/M=0∧N%M=N):=⟨Nat.div_eq_of_lt h,Nat.mod_eq_of_lt h⟩;clear ha hb h;go_enter Tryz.func129,Tryz.ntmps129;go_wp2_with fail;refine(kC _ _ N M _ HA.out HB.out).mono ?_;rintro e w1 ⟨rfl,hb1⟩;rw[HE.out];go_wp2_with fail;go_ret2
 exact⟨⟨_,_,rfl,by rw[HD.out.1,bp];exact Rd.nil _,by rw[HD.out.2];exact HA.out.below hb1⟩,hb1⟩
theorem iD (x y:Nat) (hx:x<4294967296) (hy:y<4294967296):bits .or .u64 ((y:Int)*4294967296) (x:Int)=((y*4294967296+x:Nat):Int):=by
 have h2:(BitVec.ofInt 64 (x:Int)).toNat=x:=by
  rw[BitVec.ofInt_natCast,BitVec.toNat_ofNat];exact Nat.mod_eq_of_lt (by omega)
 have h3:(BitVec.ofInt 64 ((y:Int)*4294967296)).toNat=y*4294967296:=by
  rw[show((y:Int)*4294967296)=((y*4294967296:Nat):Int) by omega,BitVec.ofInt_natCast,BitVec.toNat_ofNat];exact Nat.mod_eq_of_lt (by omega)
 show IntKind.u64.wrap ((BitVec.ofInt 64 ((y:Int)*4294967296) ||| BitVec.ofInt 64 (x:Int)).toNat:Int)=_
 have h4:y*4294967296 ||| x=y*4294967296+x:=by
  have:=Nat.two_pow_add_eq_or_of_lt (i:=32) (b:=x) (by omega) y;rw[show(2:Nat)^32=4294967296 from rfl,Nat.mul_comm] at this;exact this.symm
 rw[BitVec.toNat_or,h2,h3,h4,IntKind.wrap_u64];omega
theorem Ed {M:Nat} (h0:M≠0) (h:M<4294967296):dg M = [M]:=by
 rw[fj M h0,Nat.mod_eq_of_lt h,Nat.div_eq_of_lt h,bp]
theorem AW (a b:Value) (N M:Nat) (w:World) (ha:Rd w a (dg N)) (hb:Rd w b (dg M)) (h:M≤N) (h0:M≠0) (hM:M<4294967296) (hx:(dg N).length≤1000000) :
  Calls Tryz.prog 129 #[a,b] w fun e w'=>uT w w' e N M:=by
 obtain⟨i0,hi,hz0,hz1,hz2⟩:=info_parts eo;obtain⟨A,ca,rfl⟩:=ha.form;have HB:=Lh hb;have hb':=hb;rw[Ed h0 hM] at hb';obtain⟨B,cb,rfl⟩:=hb'.form;obtain⟨bb,ob,rfl,hbb,cB,-⟩:=hb'.at' (n:=1) 0 (by simp);have cB0:w.cell? ⟨bb,ob,none⟩=some (.int .u32 ((M:Nat):Int)):=cB;clear cB;have HA:=Lh ha;have HE:=Lh (jm h);obtain⟨c,hc⟩:∃ c,cmpD N M=c:=⟨_,rfl⟩;have RA:=Lh (fun i hi=>HA.out.at' (n:=(dg N).length) i hi)
 have hNn:Hid (N<4294967296^(dg N).length):=by
  have:=mq (dg N) (fQ N);rwa [aY] at this
 have hGD:Hid (∀ i,(dg N).getD i 0=N/4294967296^i%4294967296):=fun i=>jk N i;obtain⟨n,hn⟩:∃ n,(dg N).length=n:=⟨_,rfl⟩;have hm:=run_make_row (P:=Tryz.prog) 50 125 i0 (.int .u32 0) Tryz.underlying50 hi hz0 hz1 rfl .i64 .i64 n (by rw[hz2];omega) (by omega);rw[hn] at hx RA hNn HA ⊢;have HM:Hid (0<M):=Nat.pos_of_ne_zero h0;have hMpos:(0:Int)<(M:Int):=by omega
 have hcn:Hid (0≤c):=by show _≤_;rw[← hc];exact HE.out
 clear ha hb hb' h hn h0;go_enter Tryz.func129,Tryz.ntmps129;go_wp2_with fail;refine(kC _ _ N M _ HA.out HB.out).mono ?_;rintro e w1 ⟨rfl,hb1⟩;rw[hc];have hc0:(0:Int)≤c:=hcn.out;clear hc HE hcn;go_wp2_with fail;clear hm;have hr0:=Lh (World.rowIs_made w1 (.int .u32 0) n 125);go_loopw [7,8] (fun t7 t8 wr=>∃ k:Nat,k≤n∧t8 = .int .i64 ((k:Int)-1)∧t7 = .int .u64 ((N/4294967296^k%M:Nat):Int)∧Hid (wr.rowIs w1.heap.size 125 n (fun j => .int .u32 ((if k≤j then N/M/4294967296^j%4294967296 else 0:Nat):Int)))∧Hid (Below w1.heap.size w1 wr)) (fun _ t8 _=>(intOf t8+1).toNat)
 case atStart =>
  refine⟨n,Nat.le_refl _,rfl,by rw[Nat.div_eq_of_lt hNn.out,Nat.zero_mod];rfl,?_,ae⟩;exact hr0.out.congr (fun j hj=>by rw[if_neg (by omega)];simp)
 case round =>
  clear hr0;obtain⟨k,hk,rfl,rfl,HRW,HBR⟩:=hrel;have hbs:=HBR.out.size;have cB':=(HBR.out.cell (p:=⟨bb,ob,none⟩) (by have:=hb1.size;show bb<_;omega)).trans ((hb1.cell (p:=⟨bb,ob,none⟩) hbb).trans cB0);by_cases hk0:k=0
  ·subst hk0;have hrd:=Lh (Rd.row HRW.out (by omega) (fun j _=>by rw[if_pos (Nat.zero_le _)];exact Nat.mod_lt _ (by decide)))
   have hval:Hid (nv ((List.range n).map fun j=>if 0≤j then N/M/4294967296^j%4294967296 else 0)=N/M):=by
    show _=_;rw[dN,ir _ (N/M) _ (fun j _=>by rw[if_pos (Nat.zero_le _)])];exact Nat.mod_eq_of_lt (Nat.lt_of_le_of_lt (Nat.div_le_self _ _) hNn.out)
   have hR:N/4294967296^0%M=N%M:=by rw[Nat.pow_zero,Nat.div_one]
   rw[hR];obtain⟨R,hR2⟩:∃ R,N%M=R:=⟨_,rfl⟩;have HR:=Lh hR2;have hRlt:R<4294967296:=by rw[← hR2];exact Nat.lt_trans (Nat.mod_lt _ HM.out) hM
   rw[hR2];have rw1:IntKind.u32.wrap (R:Int)=(R:Int):=by rw[IntKind.wrap_u32];omega
   clear hR hR2 hk;go_wp2_with fail;refine(ev _ _ _ hrd.out).mono ?_;rintro e w2 ⟨⟨s',rfl,hs'⟩,rfl⟩;have hs2:=Lh (hs' _ hrd.out);clear hs';go_wp2_with fail;have hr1:Hid (Rd (w2.alloc (Obj.cells #[.int .u32 (R:Int)] 125)) (.slice (some ⟨w2.heap.size,0,none⟩) 1 1) [R]):=Rd.one hRlt (by simp) (by go_simp);refine(ev _ _ _ hr1.out).mono ?_;rintro e w3 ⟨⟨s2,rfl,hs2'⟩,rfl⟩;have hs3:=Lh (hs2' _ hr1.out);clear hs2';go_wp2_with fail;go_ret2
   refine⟨⟨_,_,rfl,?_,?_⟩,?_⟩
   ·have:=hs2.out;rw[hval.out] at this;exact this.below ((Below.refl _ _).alloc (Nat.le_refl _) _)
   ·have:=hs3.out;rw[show nv [R]=R by show R+4294967296*0=R;omega] at this;rw[HR.out];exact this
   ·exact hb1.trans ((HBR.out.alloc hbs _).mono hb1.size)
  ·obtain⟨i,rfl⟩:∃ i,k=i+1:=⟨k-1,by omega⟩;rw[show((i+1:Nat):Int)-1=(i:Int) by omega];obtain⟨ba,oa,rfl,hba,cA,uA⟩:=RA.out i (by omega);rw[hGD.out] at cA uA;have cA':=(HBR.out.cell (p:=⟨ba,oa+i,none⟩) (by have:=hb1.size;show ba<_;omega)).trans ((hb1.cell (p:=⟨ba,oa+i,none⟩) hba).trans cA);have hck:=HRW.out.cell (show i<n by omega);have hfk:=HRW.out.frozen;have HO:=Lh (vH N M i HM.out);have hr:N/4294967296^(i+1)%M<M:=Nat.mod_lt _ HM.out;obtain⟨x,hx1⟩:∃ x,N/4294967296^i%4294967296=x:=⟨_,rfl⟩;obtain⟨r,hr1⟩:∃ r,N/4294967296^(i+1)%M=r:=⟨_,rfl⟩;rw[hx1] at cA cA' uA HO;rw[hr1] at HO hr ⊢;obtain⟨T1,hT1⟩:∃ T,r*4294967296+x=T:=⟨_,rfl⟩;rw[hT1] at HO;have hor:=iD x r uA (by omega);rw[hT1] at hor;have hTM:T1<M*4294967296:=by omega
   have HQ1:Hid (T1/M<4294967296):=by
    show _<_;rw[Nat.div_lt_iff_lt_mul HM.out,Nat.mul_comm];exact hTM
   have d1:(T1:Int).tdiv (M:Int)=((T1/M:Nat):Int):=by rw[Int.tdiv_eq_ediv_of_nonneg (by omega)];exact(Int.natCast_ediv _ _).symm
   have d2:(T1:Int).tmod (M:Int)=((T1%M:Nat):Int):=by rw[Int.tmod_eq_emod_of_nonneg (by omega)];exact(Int.natCast_emod _ _).symm
   obtain⟨Q1,hQ1⟩:∃ Q,T1/M=Q:=⟨_,rfl⟩;obtain⟨R1,hR1⟩:∃ Q,T1%M=Q:=⟨_,rfl⟩;rw[hQ1] at HQ1 HO d1;rw[hR1] at HO d2;have hQlt:Q1<4294967296:=HQ1.out
   have HDIG:Hid (N/M/4294967296^i%4294967296=Q1):=by
    show _=_;have:=HO.out.1;rw[Nat.div_div_eq_div_mul,Nat.mul_comm M,← Nat.div_div_eq_div_mul,← this];omega
   have hki:Hid (i≤n):=by show i≤n;omega
   have hT64:T1<18446744073709551616:=by omega
   have nb:¬ ba=w1.heap.size:=by have:=hb1.size;omega
   have nb2:¬ bb=w1.heap.size:=by have:=hb1.size;omega
   clear hT1 hx1 hr1 hQ1 hR1 hTM cA;go_wp2_with fail;refine⟨⟨i,hki.out,by first|rfl|go_num,by rw[HO.out.2],?_,?_⟩,by simp[intOf]⟩
   ·refine Lh ((HRW.out.set i _).congr (fun j _=>?_));by_cases e:j=i
    ·rw[if_pos e,if_pos (by omega),e,HDIG.out]
    ·rw[if_neg e];by_cases e2:i+1≤j
     ·rw[if_pos e2,if_pos (by omega)]
     ·rw[if_neg e2,if_neg (by omega)]
   ·exact HBR.out.setCell (by simp) _
open Go.RowKit
def Uh (w:World) (base:Nat) (v:Value) (len:Nat) (F:Nat→Nat):Prop :=
 ∃ g cap,v = .slice (some ⟨g,0,none⟩) len cap∧len≤cap∧base≤g∧w.rowIs g 125 cap (fun j => .int .u32 ((F j:Nat):Int))∧∀ j,len≤j→F j=0
theorem lF (n j:Nat) (h:j<n):(Builtin.zeroCells (Value.int IntKind.u32 0).cells n)[j]? = some (.int .u32 0):=by
 unfold Builtin.zeroCells;simp[Value.cells,h,Nat.mod_one]
theorem tI (w:World) (A:Option Addr) (c:Nat) (xs:List Nat) (hy:Rd w (.slice A xs.length c) xs) (hne:xs ≠ []) (hlen:xs.length≤1000000) :
  ∃ v w',(Builtin.append_ #[50,50] 50 #[.slice none 0 0,.slice A xs.length c]).run Tryz.prog w = .ok v w'∧Below w.heap.size w w'∧Uh w' w.heap.size v xs.length (fun j=>xs.getD j 0):=by
 obtain⟨i0,hi,hz0,hz1,hz2⟩:=info_parts eo;obtain⟨hd,⟨-,h0⟩|⟨b,o,cap,he,h1,h2,h3,h4⟩⟩:=hy
 ·exact absurd h0 hne
 injection he with e1 e2 e3
 subst e1;subst e3;have hpos:=List.length_pos_iff.2 hne
 have hs:Src Tryz.prog i0.size 50 (.slice (some ⟨b,o,none⟩) xs.length c) xs.length (xs.map fun (d:Nat)=>Value.int IntKind.u32 (d:Int)) w:=by
  refine Src.ofSlice w Tryz.underlying50 _ _ _ _ (by rw[hz1];simp) (fun j u hj=>?_) (fun u hu=>?_)
  ·rw[List.getElem?_map] at hj;by_cases hjl:j<xs.length
   ·rw[List.getElem?_eq_getElem hjl] at hj;obtain rfl:=Option.some.inj hj;have:=h4 j hjl;rw[Addr.add_lit];exact this
   ·rw[List.getElem?_eq_none (by omega)] at hj;cases hj
  ·obtain⟨d,-,rfl⟩:=List.mem_map.1 hu;rfl
 have hrun:=run_append_grow_src (P:=Tryz.prog) w 50 50 50 125 i0 (.int .u32 0) Tryz.underlying50 hi hz0 none 0 0 [] (by simpa using run_firstCells_none w.drew i0.size 0 0 0) _ _ _ hs (by omega) (by omega) (by rw[hz2];exact growslice_fits (by omega) (by omega))
 have hcap:xs.length≤grownCap w (0+xs.length) 0 125:=by
  unfold grownCap Question.cut;rw[Nat.zero_add];exact Nat.le_add_right _ _
 simp only[Nat.zero_add] at hrun hcap;obtain⟨K,hK⟩:∃ K,grownCap w xs.length 0 125=K:=⟨_,rfl⟩;rw[hK] at hrun hcap;refine⟨_,_,hrun,(Below.refl _ _).drew.alloc (Nat.le_refl _) _,w.heap.size,K,rfl,hcap,Nat.le_refl _,?_,fun j hj=>by show xs.getD j 0=0;rw[List.getD_eq_getElem?_getD,List.getElem?_eq_none (by omega)];rfl⟩
 have hsz:(([]++xs.map fun (d:Nat)=>Value.int IntKind.u32 (d:Int)).toArray++Builtin.zeroCells (Value.int IntKind.u32 0).cells (K-xs.length)).size=K:=by
  simp[size_zeroCells,Value.cells];omega
 have:=World.rowIs_alloc w.drew (([]++xs.map fun (d:Nat)=>Value.int IntKind.u32 (d:Int)).toArray++Builtin.zeroCells (Value.int IntKind.u32 0).cells (K-xs.length)) 125 (fun j => .int .u32 ((xs.getD j 0:Nat):Int)) (fun i hi=>by
  rw[hsz] at hi;by_cases hl:i<xs.length
  ·rw[Array.getElem?_append_left (by simpa using hl)];simp[hl]
  ·rw[Array.getElem?_append_right (by simpa using hl)];simp only[List.nil_append,List.size_toArray,List.length_map];rw[lF _ _ (by omega)];simp[List.getElem?_eq_none (show xs.length≤i by omega)])
 rw[hsz] at this;exact this
theorem rJ (w0 w:World) (v:Value) (L:Nat) (F:Nat→Nat) (h:Uh w w0.heap.size v L F) (hb:Below w0.heap.size w0 w) (k:Nat) (hc:w.cell? ⟨k,0,none⟩=some (.int .u32 0)) (hL:L≤1000000) :
  ∃ v' w',(Builtin.append_ #[50,50] 50 #[v,.slice (some ⟨k,0,none⟩) 1 1]).run Tryz.prog w = .ok v' w'∧Below w0.heap.size w0 w'∧Uh w' w0.heap.size v' (L+1) F:=by
 obtain⟨i0,hi,hz0,hz1,hz2⟩:=info_parts eo;obtain⟨g,cap,rfl,hle,hg,hrow,hz⟩:=h
 have hs:Src Tryz.prog i0.size 50 (.slice (some ⟨k,0,none⟩) 1 1) 1 [.int .u32 0] w:=by
  refine Src.ofSlice w Tryz.underlying50 _ _ _ _ (by rw[hz1];rfl) (fun j u hj=>?_) (fun u hu=>?_)
  ·rcases j with _|j
   ·obtain rfl:=Option.some.inj hj;rw[Addr.add_lit];exact hc
   ·cases hj
  ·simp at hu;subst hu;rfl
 by_cases hroom:L+1≤cap
 · have hrun := run_append_room_src (P := Tryz.prog) w 50 50 50 125 i0 Tryz.underlying50 hi g 0 L cap _ 1 _ hs hroom
     (fun j hj=>by
      obtain rfl:j=0:=by simpa using hj
      rw[hz1,show 0+L*1+0=L by omega,hrow.cell (show L<cap by omega)];rfl)
     (fun j hj=>hrow.frozen _)
   rw[hz1,show 0+L*1=L by omega] at hrun;refine⟨_,_,hrun,?_,g,cap,rfl,hroom,hg,?_,fun j hj=>hz j (by omega)⟩
   ·exact hb.setCell hg _
   · exact(hrow.set L _).congr (fun j _ => by
       by_cases e:j=L
       ·rw[if_pos e,e,hz L (Nat.le_refl _)];rfl
       ·rw[if_neg e])
 · have hold : (Builtin.firstCells i0.size L (.slice (some ⟨g, 0, none⟩) L cap)).run Tryz.prog w.drew = .ok ((List.range L).map fun j => Value.int IntKind.u32 (F j : Int)).toArray w.drew :=
     run_firstCells_some w.drew i0.size L ⟨g,0,none⟩ L cap _ (by rw[hz1];simp) (fun j u hj=>by
      by_cases hjl:j<L
      ·rw[List.getElem?_map,List.getElem?_range hjl] at hj;obtain rfl:=Option.some.inj hj;rw[Addr.add_lit,Nat.zero_add];exact hrow.drew.cell (by omega)
      ·rw[List.getElem?_eq_none (by simpa using hjl)] at hj;cases hj)
   have hrun:=run_append_grow_src (P:=Tryz.prog) w 50 50 50 125 i0 (.int .u32 0) Tryz.underlying50 hi hz0 (some ⟨g,0,none⟩) L cap _ hold _ 1 _ hs (by omega) (by omega) (by rw[hz2];exact growslice_fits (by omega) (by omega))
   have hcap:L+1≤grownCap w (L+1) cap 125:=by
    unfold grownCap Question.cut;exact Nat.le_add_right _ _
   obtain⟨K,hK⟩:∃ K,grownCap w (L+1) cap 125=K:=⟨_,rfl⟩;rw[hK] at hrun hcap;refine⟨_,_,hrun,hb.drew.alloc hb.size _,w.heap.size,K,rfl,hcap,hb.size,?_,fun j hj=>hz j (by omega)⟩
   have hsz:((((List.range L).map fun j=>Value.int IntKind.u32 (F j:Int)) ++ [Value.int IntKind.u32 0]).toArray++Builtin.zeroCells (Value.int IntKind.u32 0).cells (K-(L+1))).size=K:=by
    simp[size_zeroCells,Value.cells];omega
   have:=World.rowIs_alloc w.drew ((((List.range L).map fun j=>Value.int IntKind.u32 (F j:Int)) ++ [Value.int IntKind.u32 0]).toArray++Builtin.zeroCells (Value.int IntKind.u32 0).cells (K-(L+1))) 125 (fun j => .int .u32 ((F j:Nat):Int)) (fun i hi=>by
    rw[hsz] at hi;by_cases hl:i<L
    ·rw[Array.getElem?_append_left (by simp;omega)];rw[List.getElem?_toArray,List.getElem?_append_left (by simpa using hl),List.getElem?_map,List.getElem?_range hl];rfl
    ·rw[hz i (by omega)];by_cases he:i=L
     ·rw[Array.getElem?_append_left (by simp;omega)];simp[he]
     ·rw[Array.getElem?_append_right (by simp;omega)];simp only[List.size_toArray,List.length_append,List.length_map,List.length_range,List.length_singleton];rw[lF _ _ (by omega)];rfl)
   rw[hsz] at this;exact this
theorem ft {P:Program} {w:World} {ops:Array Oper} {rest:List Oper} {o:Oper} {a:Act} {Q:Exit→Act→World→Prop} (hgd:o.guard=none) (s x:Operand) (t:TypeId)
  (ho:o.op = .call { callee := .builtin .append,args:=#[s,x],argTypes:=#[t,t] }) {sv xv v':Value} {w':World} (hr:(Builtin.append_ #[t,t] o.type #[sv,xv]).run P w = .ok v' w')
  (hs:a.eval s=sv) (hx:a.eval x=xv) (h:wpList P ops Q rest (a.put o.dst v') w'):wpList P ops Q (o :: rest) a w :=
 wpList_plain hgd fun _ hK=>by
  unfold Oper.wp execOp
  simp only[ho,resolve,invoke,builtin,Sem.run_bind,Sem.run_pure,Result.andThen_ok,List.map_toArray,List.map_cons,List.map_nil,hs,hx,hr]
  exact hK _ _ h
theorem wZ (t s:Nat) (h0:0<t) (h:t*2^s<2147483648):t*2^(s+1)<4294967296∧s+1≤31:=by
 have h1:t*2^(s+1)=t*2^s*2:=by rw[Nat.pow_succ,Nat.mul_assoc]
 refine⟨by omega,?_⟩;have h2:2^s≤t*2^s:=Nat.le_mul_of_pos_left _ h0;by_cases hs:s+1≤31
 ·exact hs
 ·have:(2:Nat)^31≤2^s:=Nat.pow_le_pow_right (by decide) (by omega);have e:(2:Nat)^31=2147483648:=rfl;omega
theorem va (M n t s:Nat) (hn:0<n) (ht:M/4294967296^(n-1)=t) (h1:t*2^s<4294967296) (h2:2147483648≤t*2^s) (hs:s≤31) :
  M*2^s<4294967296^n∧2147483648*4294967296^(n-1)≤M*2^s:=by
 have hp:0<4294967296^(n-1):=Nat.pow_pos (by decide);have e:(4294967296:Nat)^n=4294967296^(n-1)*4294967296:=by rw[← Nat.pow_succ];congr 1;omega
 have hdm:=Nat.div_add_mod M (4294967296^(n-1));have hlt:=Nat.mod_lt M hp;rw[ht] at hdm
 have h3:(t+1)*2^s≤4294967296:=by
  have e2:(4294967296:Nat)=2^(32-s)*2^s:=by rw[← Nat.pow_add,show 32-s+s=32 by omega]
  rw[e2] at h1 ⊢;exact Nat.mul_le_mul_right _ (Nat.lt_of_mul_lt_mul_right h1)
 have hps:0<2^s:=Nat.two_pow_pos s;refine⟨?_,?_⟩
 ·have h4:M<(t+1)*4294967296^(n-1):=by rw[Nat.add_mul,Nat.mul_comm t];omega
  have h5:M*2^s<(t+1)*4294967296^(n-1)*2^s:=Nat.mul_lt_mul_of_pos_right h4 hps;rw[e];refine Nat.lt_of_lt_of_le h5 ?_;rw[Nat.mul_right_comm,Nat.mul_comm];exact Nat.mul_le_mul_left _ h3
 ·have h4:t*4294967296^(n-1)≤M:=by rw[Nat.mul_comm];omega
  refine Nat.le_trans (Nat.mul_le_mul_right _ h2) ?_;rw[Nat.mul_right_comm];exact Nat.mul_le_mul_right _ h4
theorem wB (N n:Nat) (hn:0<n) (h1:N<4294967296^n) (h2:4294967296^(n-1)≤N):(dg N).length=n:=by
 have h3:=dF N n h1;have h4:=mq (dg N) (fQ N);rw[aY] at h4;by_cases hl:(dg N).length≤n-1
 ·have:=Nat.pow_le_pow_right (n:=4294967296) (by decide) hl;omega
 ·omega
theorem zX (F:Nat→Nat) (hF:∀ k,F k<4294967296) (L t:Nat) (h1:0<t) (h2:t<L) (hz:∀ k,t<k→k<L→F k=0) :
  nvf F L/4294967296^(t-1)=F t*4294967296+F (t-1):=by
 obtain⟨p,rfl⟩:∃ p,t=p+1:=⟨t-1,by omega⟩;rw[ss F (p+2) L (by omega) (fun i h3 h4=>hz i (by omega) h4),Nat.add_sub_cancel];show(nvf F p+4294967296^p*F p+4294967296^(p+1)*F (p+1))/4294967296^p=_;have h:=jD F hF p
 have e:nvf F p+4294967296^p*F p+4294967296^(p+1)*F (p+1)=nvf F p+4294967296^p*(F (p+1)*4294967296+F p):=by
  rw[Nat.pow_succ];generalize 4294967296^p=P;grind
 rw[e,Nat.add_mul_div_left _ _ (Nat.pow_pos (by decide)),Nat.div_eq_of_lt h,Nat.zero_add]
theorem nN (F:Nat→Nat) (hF:∀ k,F k<4294967296) (L t:Nat) (h2:t≤L) (hz:∀ k,t≤k→k<L→F k=0):nvf F L<4294967296^t:=by
 rw[ss F t L h2 hz];exact jD F hF t
theorem vw (N M n K s:Nat) (hN:N<4294967296^(n+K)) (hM:4294967296^(n-1)≤M) (hn:0<n):N*2^s<M*2^s*4294967296^(K+1):=by
 have e:(4294967296:Nat)^(n+K)=4294967296^(n-1)*4294967296^(K+1):=by rw[← Nat.pow_add];congr 1;omega
 rw[e] at hN;have h1:=Nat.lt_of_lt_of_le hN (Nat.mul_le_mul_right (4294967296^(K+1)) hM);have h2:=Nat.mul_lt_mul_of_pos_right h1 (Nat.two_pow_pos s);rwa [Nat.mul_right_comm] at h2
theorem xq {w:World} {g n cap:Nat} {t:TypeId} {f:Nat→Nat} (h:w.rowIs g t cap (fun i => .int .u32 ((f i:Nat):Int))) (hc:n≤cap) (hn:n≤1099511627776) (hf:∀ i,f i<4294967296):Rd w (.slice (some ⟨g,0,none⟩) n cap) ((List.range n).map f):=by
 refine⟨fun d hd=>?_,.inr ⟨g,0,cap,by simp,by simpa using hc,by simpa using hn,h.lt,fun i hi=>?_⟩⟩
 ·obtain⟨i,hi,rfl⟩:=List.mem_map.1 hd;exact hf i
 ·have hi':i<n:=by simpa using hi
  rw[Nat.zero_add,h.cell (show i<cap by omega)];simp
theorem gQ {w:World} {g k cap:Nat} {t:TypeId} {F:Nat→Nat} (h:w.rowIs g t cap (fun i => .int .u32 ((F i:Nat):Int))) (d:Nat) (v:Int) (hv:v=(d:Int)) :
  (w.setCell ⟨g,k,none⟩ (.int .u32 v)).rowIs g t cap (fun i => .int .u32 ((setD F k d i:Nat):Int)):=by
 subst hv;refine(h.set k _).congr (fun i _=>?_);unfold setD;by_cases e:i=k
 ·rw[if_pos e,if_pos e]
 ·rw[if_neg e,if_neg e]
theorem qN (x y b:Nat) (C:Int) (hC:C = -(b:Int)) (hy:y<4294967296) (_hx:x<4294967296) (hb:b≤1):(C+((x:Int)-(y:Int)))%4294967296=(mdig x y b:Int):=by
 subst hC;unfold mdig;omega
theorem qO (x y b:Nat) (C:Int) (hC:C = -(b:Int)) (hy:y<4294967296) (hx:x<4294967296) (hb:b≤1):(C+((x:Int)-(y:Int)))/4294967296 = -((mbor x y b:Nat):Int):=by
 subst hC;unfold mbor;split <;> omega
theorem DR (V n:Nat) (hV:V<4294967296^n) (hn:0<n):(dg V).getD (n-1) 0=V/4294967296^(n-1):=by
 rw[jk,Nat.mod_eq_of_lt];rw[Nat.div_lt_iff_lt_mul (Nat.pow_pos (by decide)),Nat.mul_comm,← Nat.pow_succ,show(n-1).succ=n by omega];exact hV
theorem Uh.alloc {w:World} {base:Nat} {v:Value} {len:Nat} {F:Nat→Nat} (h:Uh w base v len F) (o:Obj):Uh (w.alloc o) base v len F:=by
 obtain⟨g,cap,h1,h2,h3,h4,h5⟩:=h;exact⟨g,cap,h1,h2,h3,h4.alloc o,h5⟩
open Go.RowKit
theorem xH (a b:Value) (N M:Nat) (w:World) (ha:Rd w a (dg N)) (hb:Rd w b (dg M)) (h:M≤N) (hn2:2≤(dg M).length) (hx:(dg N).length≤500000) :
  Calls Tryz.prog 129 #[a,b] w fun e w'=>uT w w' e N M:=by
 obtain⟨i0,hi,hz0,hz1,hz2⟩:=info_parts eo;obtain⟨A,ca,rfl⟩:=ha.form;have HE:=Lh (jm h);obtain⟨c,hc⟩:∃ c,cmpD N M=c:=⟨_,rfl⟩;obtain⟨B,cb,rfl⟩:=hb.form;have HA:=Lh ha;have HB:=Lh hb;have hmn:=bV h;obtain⟨bb,ob,rfl,hbb,cB,uB⟩:=hb.at' (n:=(dg M).length) ((dg M).length-1) (by omega);have hT:=jk M ((dg M).length-1);obtain⟨t,ht⟩:∃ t,(dg M).getD ((dg M).length-1) 0=t:=⟨_,rfl⟩;rw[ht] at cB uB hT;obtain⟨n,hn⟩:∃ n,(dg M).length=n:=⟨_,rfl⟩;obtain⟨m,hm⟩:∃ n,(dg N).length=n:=⟨_,rfl⟩;have HLN:=Lh hn;have HLM:=Lh hm;rw[hn] at HB hn2 hmn cB hT ⊢;rw[hm] at HA hx hmn ⊢;have hcn:Hid (0≤c):=by show _≤_;rw[← hc];exact HE.out
 have hc0:(0:Int)≤c:=hcn.out;have k1:¬ ((n:Int)=1):=by omega
 have k2:(0:Int)≤(n:Int)-1:=by omega
 have HMn:Hid (M<4294967296^n):=by
  have h4:=mq (dg M) (fQ M);rw[aY,HLN.out] at h4;exact h4
 have HML:Hid (4294967296^(n-1)≤M):=by
  show _≤_;have h5:=HLN.out;by_cases h6:M<4294967296^(n-1)
  ·have:=dF M (n-1) h6;omega
  ·omega
 have HT:Hid (M/4294967296^(n-1)=t):=by
  show _=_;rw[hT,Nat.mod_eq_of_lt];rw[Nat.div_lt_iff_lt_mul (Nat.pow_pos (by decide)),Nat.mul_comm,← Nat.pow_succ,show(n-1).succ=n by omega];exact HMn.out
 have ht0:0<t:=by
  rw[← HT.out];exact Nat.div_pos HML.out (Nat.pow_pos (by decide))
 clear hn hm ha hb hT ht hcn HE;have cB1:w.cell? ⟨bb,ob+(n-1),none⟩=some (.int .u32 (t:Int)):=cB;go_enter Tryz.func129,Tryz.ntmps129;go_wp2_with fail;refine(kC _ _ N M _ (by have:=HA.out;exact this) (by have:=HB.out;exact this)).mono ?_;rintro e w1 ⟨rfl,hb1⟩;rw[hc];have cB2:=(hb1.cell (p:=⟨bb,ob+(n-1),none⟩) hbb).trans cB1;have e1:((n:Int)-1).toNat=n-1:=by omega
 clear hc cB cB1;go_wp2_with fail;go_loopw [9,10] (fun t9 t10 wr=>∃ s:Nat,s≤31∧t*2^s<4294967296∧t9 = .int .i64 s∧t10 = .int .u32 ((t*2^s:Nat):Int)∧w1=wr) (fun t9 _ _=>32-(intOf t9).toNat)
 case atStart=>exact⟨0,by omega,by simpa using uB,rfl,by simp,rfl⟩
 case round =>
  obtain⟨s,hs,hlt,rfl,rfl,rfl⟩:=hrel;obtain⟨X,hX⟩:∃ X,t*2^s=X:=⟨_,rfl⟩;rw[hX] at hlt ⊢;by_cases hbig:X<2147483648
  ·have hst:=wZ t s ht0 (by rw[hX];exact hbig);have k3:(X:Int)<2147483648:=by omega
   have e2:t*2^(s+1)=X*2:=by rw[Nat.pow_succ,← Nat.mul_assoc,hX]
   have k4:IntKind.u32.wrap ((X:Int)*2)=((X*2:Nat):Int):=by rw[IntKind.wrap_u32];omega
   clear hX hbig;go_wp2_with fail;exact⟨⟨s+1,hst.2,hst.1,by first|rfl|go_num,by rw[e2];first|rfl|go_num,by trivial⟩,by simp[intOf] <;> omega⟩
  ·have k3:¬ (X:Int)<2147483648:=by omega
   have HS:=Lh (va M n t s (by omega) HT.out (by rw[hX];exact hlt) (by rw[hX];omega) hs);clear hX;go_wp2_with fail;refine(sJ _ (dg M) s _ (by have:=HB.out.below hb1;exact this) (by have:=HLN.out;omega) (by omega)).mono ?_;rintro e x1 ⟨⟨v,rfl,hv⟩,hb2⟩;rw[aY] at hv;go_wp2_with fail;refine(sJ _ (dg N) s _ (by have:=(HA.out.below hb1).below hb2;exact this) (by have:=HLM.out;omega) (by omega)).mono ?_;rintro e x2 ⟨⟨y,rfl,hy⟩,hb3⟩;rw[aY] at hy;replace hv:=hv.below hb3;obtain⟨Ay,cy',rfl⟩:=hy.form;obtain⟨V1,cv,rfl⟩:=hv.form;have HLV:Hid ((dg (M*2^s)).length=n):=wB _ _ (by omega) HS.out.1 (Nat.le_trans (Nat.le_mul_of_pos_left _ (by decide)) HS.out.2);rw[HLV.out] at hv ⊢
   have hne:dg (N*2^s) ≠ []:=by
    intro h0;have h1:=(d6 _).1 h0;have h2:0<N*2^s:=Nat.mul_pos (by have:=Nat.lt_of_lt_of_le (Nat.pow_pos (n:=n-1) (show 0<4294967296 by decide)) HML.out;omega) (Nat.two_pow_pos s);omega
   have hl2:(dg (N*2^s)).length≤m+1:=by
    refine dF _ _ ?_;have h4:=mq (dg N) (fQ N);rw[aY,HLM.out] at h4;have h5:(2:Nat)^s≤4294967296:=Nat.pow_le_pow_right (n:=2) (j:=32) (by decide) (by omega);rw[Nat.pow_succ];exact Nat.lt_of_lt_of_le (Nat.mul_lt_mul_of_pos_right h4 (Nat.two_pow_pos s)) (Nat.mul_le_mul_left _ h5)
   have hl1:m≤(dg (N*2^s)).length:=by
    rw[← HLM.out];exact bV (Nat.le_mul_of_pos_right _ (Nat.two_pow_pos s))
   have hlen:(dg (N*2^s)).length≤1000000:=by omega
   obtain⟨u,x3,hap,hb4,hU⟩:=tI x2 Ay cy' _ hy hne hlen;go_wp2_with (at_builtin;refine ft rfl _ _ 50 rfl hap (by rfl) (by rfl) ?_)
   have HF:Hid (nvf (fun j=>(dg (N*2^s)).getD j 0) (dg (N*2^s)).length=N*2^s):=by
    show _=_;rw[dM _ _ (Nat.le_refl _),aY]
   have HFD:Hid (∀ k,(dg (N*2^s)).getD k 0<4294967296):=fun k=>bI (fQ _) k;obtain⟨L0,hL0⟩:∃ L,(dg (N*2^s)).length=L:=⟨_,rfl⟩;rw[hL0] at HF hU hl1 hl2;obtain⟨F,hFe⟩:∃ F:Nat→Nat,(fun j=>(dg (N*2^s)).getD j 0)=F:=⟨_,rfl⟩;rw[hFe] at HF hU;replace HFD:Hid (∀ k,F k<4294967296):=fun k=>by rw[← hFe];exact HFD.out k
   have HU:Hid (Uh x3 x2.heap.size u L0 F):=hU
   have HZ0:Hid (∀ i,L0≤i→F i=0):=by
    obtain⟨g,cap,-,-,-,-,h5⟩:=hU;exact h5
   have HV:=Lh hv;have HB4:=Lh hb4;have HB12:Hid (Below w1.heap.size w1 x2):=hb2.trans (hb3.mono hb2.size);clear hFe hL0 hU hap hy hv hb2 hb3 hb4 hne hlen;go_loopw [12] (fun t12 wr=>∃ L:Nat,m≤L∧L≤m+1∧L0≤L∧yq t12=L∧Hid (Uh wr x2.heap.size t12 L F)∧Hid (Below x2.heap.size x2 wr)) (fun t12 _=>m+2-yq t12)
   case atStart =>
    obtain⟨g,cap,rfl,h2⟩:=HU.out;exact⟨L0,hl1,hl2,Nat.le_refl _,rfl,⟨g,cap,rfl,h2⟩,HB4⟩
   case round =>
    clear HU HB4;obtain⟨L,hL1,hL2,hL0,hlv,HU,HB4⟩:=hrel;obtain⟨gu,cap,rfl,hcap,hgu,hrow,hz⟩:=HU.out;by_cases hLm:L≤m
    ·have k3:(L:Int)≤(m:Int):=by omega
     have HLE:Hid (L=m):=by show L=m;omega
     obtain⟨u',x4,hap,hb5,hU5⟩:=rJ x2 (wr.alloc (Obj.cells #[.int .u32 0] 125)) _ L F (Uh.alloc HU.out _) (HB4.out.alloc HB4.out.size _) wr.heap.size (by go_simp) (by omega);have HU5:=Lh hU5;have HB5:=Lh hb5;clear hb5 hU5 hlv hLm;go_wp2_with (at_builtin;refine ft rfl _ _ 50 rfl hap (by rfl) (by rfl) ?_)
     obtain⟨g5,cap5,rfl,h5⟩:=HU5.out;refine⟨⟨L+1,by omega,by have:=HLE.out;omega,by omega,rfl,⟨g5,cap5,rfl,h5⟩,HB5⟩,by simp[yq];omega⟩
    ·have HLE:Hid (L=m+1):=by show L=m+1;omega
     have k3:¬ (L:Int)≤(m:Int):=by omega
     obtain⟨K,hK⟩:∃ K,m=n+K:=⟨m-n,by omega⟩;have hLI:(L:Int)-(n:Int)-1=(K:Int):=by omega
     have HM2:Hid (L=n+K+1∧m=n+K):=⟨by omega,hK⟩
     have HU0:Hid (nvf F L=N*2^s):=by
      show _=_;rw[ss F L0 L hL0 (fun i h1 _=>HZ0.out i h1)];exact HF.out
     have hm:=run_make_row (P:=Tryz.prog) 50 125 i0 (.int .u32 0) Tryz.underlying50 hi hz0 hz1 rfl .i64 .i64 (K+1) (by rw[hz2];omega) (by omega);push_cast at hm;clear hK hLm hlv hz HF HZ0 hL0 hl1 hl2;go_wp2_with fail;have hr0:=World.rowIs_made wr (.int .u32 0) (K+1) 125;have hru:=hrow.alloc (Obj.cells (madeCells #[Value.int IntKind.u32 0] (K+1)) 125);have hbu:=HB4.out.alloc HB4.out.size (Obj.cells (madeCells #[Value.int IntKind.u32 0] (K+1)) 125);have hgne:Hid (gu≠wr.heap.size∧x2.heap.size≤wr.heap.size):=⟨Nat.ne_of_lt hrow.lt,HB4.out.size⟩;clear hm hrow HB4 HU hL1 hL2 k3 e1;generalize wr.alloc (Obj.cells (madeCells #[Value.int IntKind.u32 0] (K+1)) 125)=w5 at *;generalize wr.heap.size=gw at *;have HRU:=Lh hru;have HR0:=Lh hr0;have HB5:=Lh hbu;clear hru hr0 hbu;go_loopw [16] (fun t16 wq=>∃ (jj:Nat) (F1 G1:Nat→Nat),jj≤K+1∧t16 = .int .i64 ((jj:Int)-1)∧Hid (Qs F1 G1 (N*2^s) (M*2^s) jj L (K+1))∧Hid (wq.rowIs gu 125 cap (fun i => .int .u32 ((F1 i:Nat):Int)))∧Hid (wq.rowIs gw 125 (K+1) (fun i => .int .u32 ((G1 i:Nat):Int)))∧Hid (Below x2.heap.size x2 wq)) (fun t16 _=>(intOf t16+1).toNat)
     case atStart =>
      refine⟨K+1,F,fun _=>0,Nat.le_refl _,by first|rfl|go_num,xK HFD.out HU0.out (vw N M n K s (by have:=rs N;rw[HLM.out,HM2.out.2] at this;exact this) HML.out (by omega)),HRU,HR0.out,HB5⟩
     case round =>
      clear HRU HR0 HB5;obtain⟨jj,F1,G1,hjj,rfl,HQ,HRU,HRW,HB5⟩:=hrel;by_cases h0:jj=0
      ·
       subst h0;have hs1:=xq HRU.out hcap (by have:=HLE.out;omega) HQ.out.digF;have hs2:=xq HRW.out (Nat.le_refl _) (by have:=HM2.out;omega) HQ.out.digG;have HS1:=Lh hs1;have HS2:=Lh hs2
       have HVF:Hid (nv ((List.range L).map F1)=N*2^s%(M*2^s)):=by
        show _=_;rw[dN,HQ.out.valF,Nat.pow_zero,Nat.mul_one]
       have HVG:Hid (nv ((List.range (K+1)).map G1)=N*2^s/(M*2^s)):=by
        show _=_;rw[dN,HQ.out.valG,Nat.pow_zero,Nat.mul_one,Nat.mul_one]
       clear hs1 hs2;go_wp2_with fail;refine(ev _ _ _ HS1.out).mono ?_;rintro e w6 ⟨⟨s1,rfl,hs1⟩,rfl⟩;have HT1:=Lh (hs1 _ HS1.out);rw[HVF.out] at HT1;clear hs1;go_wp2_with fail
       have HLR:Hid ((dg (N*2^s%(M*2^s))).length≤1000000):=by
        have h1:=Nat.mod_lt (N*2^s) (show 0<M*2^s from Nat.lt_of_lt_of_le (Nat.mul_pos (by decide) (Nat.pow_pos (by decide))) HS.out.2);have:=dF _ _ (Nat.lt_trans h1 HS.out.1);show _≤_;omega
       refine(tU _ _ s _ HT1.out HLR.out (by omega)).mono ?_;rintro e w7 ⟨⟨r1,rfl,hr1⟩,hb7⟩
       have HR1:Hid (Rd w7 r1 (dg (N%M))):=by
        show Rd _ _ _;rwa [jE] at hr1
       have HS2':=Lh (HS2.out.below hb7);have HB7:Hid (Below x2.heap.size x2 w7):=HB5.out.trans (hb7.mono HB5.out.size);clear hr1 hb7;go_wp2_with fail;refine(ev _ _ _ HS2'.out).mono ?_;rintro e w8 ⟨⟨s2,rfl,hs2⟩,rfl⟩;have HT2:=Lh (hs2 _ HS2'.out);rw[HVG.out,jN] at HT2;clear hs2;go_wp2_with fail;go_ret2
       exact⟨⟨_,_,rfl,HT2.out,HR1.out⟩,hb1.trans ((HB12.out.trans (HB7.out.mono HB12.out.size)).mono hb1.size)⟩
      ·obtain⟨j,rfl⟩:∃ j,jj=j+1:=⟨jj-1,by omega⟩;rw[show((j+1:Nat):Int)-1=(j:Int) by omega];obtain⟨bv,ov,rfl,hbv,-,-⟩:=HV.out.at' 0 (by rw[HLV.out];omega)
       have HVI:Hid (∀ i,i<n→∀ wx,Below x2.heap.size x2 wx→wx.cell? ⟨bv,ov+i,none⟩=some (.int .u32 (((dg (M*2^s)).getD i 0:Nat):Int))):=by
        intro i hi wx hb;obtain⟨b',o',he,h1,h2,-⟩:=HV.out.at' i (by rw[HLV.out];exact hi);injection he with he
        injection he with e1 e2
        subst e1;subst e2;exact(hb.cell (p:=⟨bv,ov+i,none⟩) h1).trans h2
       obtain⟨G,hG⟩:∃ G:Nat→Nat,G=fun i=>(dg (M*2^s)).getD i 0:=⟨_,rfl⟩;have HGD:Hid (∀ i,G i<4294967296):=by rw[hG];exact bI (fQ _)
       have HGV:Hid (nvf G n=M*2^s):=by rw[hG];exact pA _ _ (by rw[HLV.out];exact Nat.le_refl _)
       have HVI2:Hid (∀ i,i<n→∀ wx,Below x2.heap.size x2 wx→wx.cell? ⟨bv,ov+i,none⟩=some (.int .u32 ((G i:Nat):Int))):=by rw[hG];exact HVI.out
       have HGP:Hid (G (n-1)=M*2^s/4294967296^(n-1)):=by rw[hG];exact DR _ _ HS.out.1 (by omega)
       have HGQ:Hid (G (n-2)=M*2^s/4294967296^(n-2)%4294967296):=by rw[hG];exact jk _ _
       clear hG HVI;obtain⟨V,hV⟩:∃ V,M*2^s=V:=⟨_,rfl⟩;rw[hV] at HS HV HLV HQ HGV HGP HGQ;have HVE:=Lh hV;obtain⟨U1,hU1⟩:∃ U,nvf F1 L=U:=⟨_,rfl⟩;have HU1:=Lh hU1;have hV0:0<V:=Nat.lt_of_lt_of_le (Nat.mul_pos (by decide) (Nat.pow_pos (by decide))) HS.out.2;have HL0:=Gr U1 V n j hn2 HS.out.1 HS.out.2 (by rw[← hU1];exact xL HQ.out hV0);have hzz:=AY HQ.out hV0 HS.out.1;have htw:=zX F1 HQ.out.digF L (j+n) (by omega) (by have:=HM2.out;omega) (fun k h1 h2=>hzz k (by omega) h2);have hdz:=nO F1 HQ.out.digF L (j+n-2) (by have:=HM2.out;omega);rw[hU1] at htw hdz;obtain⟨tt,htt⟩:∃ tt,j+n=tt:=⟨_,rfl⟩;obtain⟨t1,ht1⟩:∃ t1,tt-1=t1:=⟨_,rfl⟩;obtain⟨t2,ht2⟩:∃ t2,tt-2=t2:=⟨_,rfl⟩;obtain⟨p,hp⟩:∃ p,n-1=p:=⟨_,rfl⟩;obtain⟨q2,hq2⟩:∃ p,n-2=p:=⟨_,rfl⟩;have i1:(j:Int)+(n:Int)=(tt:Int):=by omega
       have i2:(tt:Int)-1=(t1:Int):=by omega
       have i3:(tt:Int)-2=(t2:Int):=by omega
       have i4:(n:Int)-1=(p:Int):=by omega
       have i5:(n:Int)-2=(q2:Int):=by omega
       have b1:tt<L:=by have:=HM2.out;omega
       have b2:t1<L:=by omega
       have b3:t2<L:=by omega
       have b4:p<n:=by omega
       have b5:q2<n:=by omega
       have HNUM:Hid (j+n=tt∧tt-1=t1∧tt-2=t2∧n-1=p∧n-2=q2):=⟨htt,ht1,ht2,hp,hq2⟩;rw[htt] at HL0 htw hdz;rw[ht1] at HL0 htw;rw[ht2] at HL0 hdz;rw[hp] at HL0 HGP;rw[hq2] at HL0 HGQ;rw[htw,hdz,← HGP.out,← HGQ.out] at HL0;have cX:=HRU.out.cell (show tt<cap by omega);have cY:=HRU.out.cell (show t1<cap by omega);have cZ:=HRU.out.cell (show t2<cap by omega);have cA:=HVI2.out p b4 _ HB5.out;have cB:=HVI2.out q2 b5 _ HB5.out;have lX:=HQ.out.digF tt;have lY:=HQ.out.digF t1;have lZ:=HQ.out.digF t2;obtain⟨xX,hxX⟩:∃ x,F1 tt=x:=⟨_,rfl⟩;obtain⟨xY,hxY⟩:∃ x,F1 t1=x:=⟨_,rfl⟩;obtain⟨xZ,hxZ⟩:∃ x,F1 t2=x:=⟨_,rfl⟩;obtain⟨xA,hxA⟩:∃ x,G p=x:=⟨_,rfl⟩;obtain⟨xB,hxB⟩:∃ x,G q2=x:=⟨_,rfl⟩;obtain⟨D,hD⟩:∃ D,U1/(V*4294967296^j)=D:=⟨_,rfl⟩;rw[hxX] at HL0 cX lX htw;rw[hxY] at HL0 cY lY htw;rw[hxZ] at HL0 cZ lZ;rw[hxA] at HL0 cA HGP;rw[hxB] at HL0 cB HGQ;rw[hD] at HL0;have HDD:=Lh hD;have HXS:Hid (F1 tt=xX∧F1 t1=xY∧F1 t2=xZ∧G p=xA∧G q2=xB):=⟨hxX,hxY,hxZ,hxA,hxB⟩;have HZH:Hid (∀ k,tt<k→k<L→F1 k=0):=fun k h1 h2=>hzz k (by omega) h2;have hor:=iD xY xX lY lX;obtain⟨T1,hT1⟩:∃ T,xX*4294967296+xY=T:=⟨_,rfl⟩;rw[hT1] at HL0 hor htw;have HLD:=Lh HL0;have hA0:=HL0.a0;have hA1:=HL0.a1;have lB:=HL0.hb;have HTW:=Lh htw;have HDZ:Hid (U1/4294967296^t2%4294967296=xZ):=by show _=_;rw[hdz,hxZ]
       have hT64:T1<18446744073709551616:=by omega
       have hAp:0<(xA:Int):=by omega
       have d1:(T1:Int).tdiv (xA:Int)=((T1/xA:Nat):Int):=by rw[Int.tdiv_eq_ediv_of_nonneg (by omega)];exact(Int.natCast_ediv _ _).symm
       have d2:(T1:Int).tmod (xA:Int)=((T1%xA:Nat):Int):=by rw[Int.tmod_eq_emod_of_nonneg (by omega)];exact(Int.natCast_emod _ _).symm
       have HE0:=yE HL0;obtain⟨Q0,hQ0⟩:∃ Q,T1/xA=Q:=⟨_,rfl⟩;obtain⟨R0,hR0⟩:∃ Q,T1%xA=Q:=⟨_,rfl⟩;rw[hQ0] at d1 HE0;rw[hR0] at d2 HE0;have hQt:=HE0.top;have hRt:=HE0.rest;have HES:=Lh HE0;have k0:(0:Int)≤(j:Int):=by omega
       have bL:L≤500001:=by have:=HLE.out;omega
       have bn:n≤500000:=by omega
       clear htt ht1 ht2 hp hq2 hxX hxY hxZ hxA hxB hD HL0 htw hdz hU1 hV hzz hT1 hQ0 hR0 HE0 h0 hx hmn hlt hbig k3 uB ht0 k1 k2 hc0 hi hz0 hz1 hz2 hLI;go_upto_region 28 with fail
       go_cut [17] from 116 to 132 (fun s17 wc=>s17 = .int .u64 (T1:Int)∧Hid (wc.rowIs gu 125 cap (fun i => .int .u32 ((F1 i:Nat):Int)))∧Hid (wc.rowIs gw 125 (K+1) (fun i => .int .u32 ((G1 i:Nat):Int)))∧Hid (Below x2.heap.size x2 wc))
       case first =>
        go_region
        go_wp2_with fail;go_meet;exact⟨rfl,HRU.out,HRW.out,(by repeat (first|exact HB5.out|refine Below.drew ?_))⟩
       case rest =>
       clear HRU HRW HB5 cX cY cZ cA cB hor;obtain⟨rfl,HRU,HRW,HB5⟩:=hcut;have cA:=HVI2.out p b4 _ HB5.out;rw[HXS.out.2.2.2.1] at cA;go_upto_region 29 with fail
       go_cut [18,19] from 133 to 148 (fun s18 s19 wc=>s18 = .int .u64 (Q0:Int)∧s19 = .int .u64 (R0:Int)∧Hid (wc.rowIs gu 125 cap (fun i => .int .u32 ((F1 i:Nat):Int)))∧Hid (wc.rowIs gw 125 (K+1) (fun i => .int .u32 ((G1 i:Nat):Int)))∧Hid (Below x2.heap.size x2 wc))
       case first =>
        go_region
        go_wp2_with fail;go_meet;exact⟨rfl,rfl,HRU.out,HRW.out,(by repeat (first|exact HB5.out|refine Below.drew ?_))⟩
       case rest =>
       clear HRU HRW HB5 cA;obtain⟨rfl,rfl,HRU,HRW,HB5⟩:=hcut;go_upto_block 8 with fail
       go_cut [18,19] from 149 to 188 (fun s18 _ wc=>∃ q:Nat,s18 = .int .u64 (q:Int)∧Hid (Cz T1 xZ xA xB D q)∧Hid (wc.rowIs gu 125 cap (fun i => .int .u32 ((F1 i:Nat):Int)))∧Hid (wc.rowIs gw 125 (K+1) (fun i => .int .u32 ((G1 i:Nat):Int)))∧Hid (Below x2.heap.size x2 wc))
       case first =>
        clear d1 d2 hT64 hQt hRt i1 i2 lX lY;go_wp2_with fail;go_loopw [18,19] (fun s18 s19 wq=>∃ q r:Nat,s18 = .int .u64 (q:Int)∧s19 = .int .u64 (r:Int)∧Hid (Est T1 xZ xA xB D q r)∧Hid (wq.rowIs gu 125 cap (fun i => .int .u32 ((F1 i:Nat):Int)))∧Hid (wq.rowIs gw 125 (K+1) (fun i => .int .u32 ((G1 i:Nat):Int)))∧Hid (Below x2.heap.size x2 wq)) (fun s18 _ _=>(intOf s18).toNat)
        case atStart=>exact⟨Q0,R0,rfl,rfl,HES,HRU.out,HRW.out,(by repeat (first|exact HB5.out|refine Below.drew ?_))⟩
        case round =>
         clear HRU HRW HB5 HES;obtain⟨q,r,rfl,rfl,HE,HRU,HRW,HB5⟩:=hrel;have hqt:=HE.out.top;have hrt:=HE.out.rest;have cZ:=HRU.out.cell (show t2<cap by omega);have cA:=HVI2.out p b4 _ HB5.out;have cB:=HVI2.out q2 b5 _ HB5.out;rw[HXS.out.2.2.1] at cZ;rw[HXS.out.2.2.2.1] at cA;rw[HXS.out.2.2.2.2] at cB;have hor:=iD xZ r lZ hrt;obtain⟨Y,hY⟩:∃ Y,r*4294967296+xZ=Y:=⟨_,rfl⟩;rw[hY] at hor;obtain⟨z,hz⟩:∃ z,q*xB=z:=⟨_,rfl⟩;have hzi:(q:Int)*(xB:Int)=(z:Int):=by rw[← hz];push_cast;rfl
         have i1:(j:Int)+(n:Int)=(tt:Int):=by have:=HNUM.out;omega
         have i3:(tt:Int)-2=(t2:Int):=by have:=HNUM.out;omega
         have hY64:Y<18446744073709551616:=by omega
         by_cases hA:4294967296≤q
         ·have dA:decide ((4294967296:Int)≤(q:Int))=true:=decide_eq_true (by omega);have hgr:=oE HLD.out HE.out (.inl hA);obtain⟨q',hq'⟩:∃ q',q=q'+1:=⟨q-1,by omega⟩;have kq:(q:Int)-1=(q':Int):=by omega
          have HQ1:Hid (q-1=q'):=by show _=_;omega
          have HGR:=Lh hgr;clear hq' hY hz hgr;by_cases hbr:4294967296≤r+xA
          ·have kb:(4294967296:Int)≤(r:Int)+(xA:Int):=by omega
           have HGD2:=Lh (oF HLD.out HE.out HGR.out hbr);rw[HQ1.out] at HGD2;go_wp2_with fail;replace cZ:=cell_regrown cZ;replace cA:=cell_regrown cA;replace cB:=cell_regrown cB;refine wp_region_quiet_below (by kernel_rfl) (by kernel_rfl) ?_;repeat (go_big_quiet_step (fail))
           refine wpQuiet_nil ?_;intro wq hwq;have hbq:=bH hwq;have HRU1:=Lh (HRU.out.of_block (hbq.block gu HRU.out.lt));have HRW1:=Lh (HRW.out.of_block (hbq.block gw HRW.out.lt));have HB6:=Lh (HB5.out.trans (hbq.mono HB5.out.size));clear cZ cA cB hwq hbq hor;have cA:=HVI2.out p b4 _ HB6.out;rw[HXS.out.2.2.2.1] at cA;go_wp2_with fail;go_meet;exact⟨q',rfl,HGD2,HRU1,HRW1,HB6⟩
          ·obtain⟨r1,hr1⟩:∃ r1,r+xA=r1:=⟨_,rfl⟩;have kr:(r:Int)+(xA:Int)=(r1:Int):=by omega
           have kr1:¬ 4294967296≤r1:=by omega
           have kr2:decide ((4294967296:Int)≤(r1:Int))=false:=decide_eq_false (by omega);have HGD2:=Lh (uD HLD.out HE.out HGR.out (by omega));rw[HQ1.out,hr1] at HGD2;clear hr1 hbr;go_wp2_with fail;replace cZ:=cell_regrown cZ;replace cA:=cell_regrown cA;replace cB:=cell_regrown cB;refine wp_region_quiet_below (by kernel_rfl) (by kernel_rfl) ?_;repeat (go_big_quiet_step (fail))
           refine wpQuiet_nil ?_;intro wq hwq;have hbq:=bH hwq;have HRU1:=Lh (HRU.out.of_block (hbq.block gu HRU.out.lt));have HRW1:=Lh (HRW.out.of_block (hbq.block gw HRW.out.lt));have HB6:=Lh (HB5.out.trans (hbq.mono HB5.out.size));clear cZ cA cB hwq hbq hor;have cA:=HVI2.out p b4 _ HB6.out;rw[HXS.out.2.2.2.1] at cA;go_wp2_with fail;exact⟨⟨q',r1,rfl,rfl,HGD2,HRU1,HRW1,HB6⟩,by have:=HQ1.out;have:=HGR.out;simp[intOf];omega⟩
         ·have hB:q<4294967296:=by omega
          have dA:decide ((4294967296:Int)≤(q:Int))=false:=decide_eq_false (by omega);have dR:decide ((r:Int)<(4294967296:Int))=true:=decide_eq_true (by omega)
          have hz64:z≤18446744065119617025:=by
           rw[← hz];exact Nat.mul_le_mul (show q≤4294967295 by omega) (show xB≤4294967295 by omega)
          by_cases hgt:Y<z
          ·have dY:decide ((Y:Int)<(z:Int))=true:=decide_eq_true (by omega);have hgr:=oE HLD.out HE.out (.inr (by rw[hY,hz];exact hgt));obtain⟨q',hq'⟩:∃ q',q=q'+1:=⟨q-1,by omega⟩;have kq:(q:Int)-1=(q':Int):=by omega
           have HQ1:Hid (q-1=q'):=by show _=_;omega
           have HGR:=Lh hgr;clear hq' hY hz hgr;by_cases hbr:4294967296≤r+xA
           ·have kb:(4294967296:Int)≤(r:Int)+(xA:Int):=by omega
            have HGD2:=Lh (oF HLD.out HE.out HGR.out hbr);rw[HQ1.out] at HGD2;go_wp2_with fail;replace cZ:=cell_regrown cZ;replace cA:=cell_regrown cA;replace cB:=cell_regrown cB;refine wp_region_quiet_below (by kernel_rfl) (by kernel_rfl) ?_;repeat (go_big_quiet_step (fail))
            refine wpQuiet_nil ?_;intro wq hwq;have hbq:=bH hwq;have HRU1:=Lh (HRU.out.of_block (hbq.block gu HRU.out.lt));have HRW1:=Lh (HRW.out.of_block (hbq.block gw HRW.out.lt));have HB6:=Lh (HB5.out.trans (hbq.mono HB5.out.size));clear cZ cA cB hwq hbq hor;have cA:=HVI2.out p b4 _ HB6.out;rw[HXS.out.2.2.2.1] at cA;go_wp2_with fail;go_meet;exact⟨q',rfl,HGD2,HRU1,HRW1,HB6⟩
           ·obtain⟨r1,hr1⟩:∃ r1,r+xA=r1:=⟨_,rfl⟩;have kr:(r:Int)+(xA:Int)=(r1:Int):=by omega
            have kr1:¬ 4294967296≤r1:=by omega
            have kr2:decide ((4294967296:Int)≤(r1:Int))=false:=decide_eq_false (by omega);have HGD2:=Lh (uD HLD.out HE.out HGR.out (by omega));rw[HQ1.out,hr1] at HGD2;clear hr1 hbr;go_wp2_with fail;replace cZ:=cell_regrown cZ;replace cA:=cell_regrown cA;replace cB:=cell_regrown cB;refine wp_region_quiet_below (by kernel_rfl) (by kernel_rfl) ?_;repeat (go_big_quiet_step (fail))
            refine wpQuiet_nil ?_;intro wq hwq;have hbq:=bH hwq;have HRU1:=Lh (HRU.out.of_block (hbq.block gu HRU.out.lt));have HRW1:=Lh (HRW.out.of_block (hbq.block gw HRW.out.lt));have HB6:=Lh (HB5.out.trans (hbq.mono HB5.out.size));clear cZ cA cB hwq hbq hor;have cA:=HVI2.out p b4 _ HB6.out;rw[HXS.out.2.2.2.1] at cA;go_wp2_with fail;exact⟨⟨q',r1,rfl,rfl,HGD2,HRU1,HRW1,HB6⟩,by have:=HQ1.out;have:=HGR.out;simp[intOf];omega⟩
          ·have dY:decide ((Y:Int)<(z:Int))=false:=decide_eq_false (by omega);have HGD2:=Lh (yF HE.out hB (by rw[hY,hz];omega));clear hY hz;go_wp2_with fail;replace cZ:=cell_regrown cZ;replace cA:=cell_regrown cA;replace cB:=cell_regrown cB;refine wp_region_quiet_below (by kernel_rfl) (by kernel_rfl) ?_;repeat (go_big_quiet_step (fail))
           refine wpQuiet_nil ?_;intro wq hwq;have hbq:=bH hwq;have HRU1:=Lh (HRU.out.of_block (hbq.block gu HRU.out.lt));have HRW1:=Lh (HRW.out.of_block (hbq.block gw HRW.out.lt));have HB6:=Lh (HB5.out.trans (hbq.mono HB5.out.size));clear cZ cA cB hwq hbq hor;have cA:=HVI2.out p b4 _ HB6.out;rw[HXS.out.2.2.2.1] at cA;go_wp2_with fail;go_meet;exact⟨q,rfl,HGD2,HRU1,HRW1,HB6⟩
       case rest =>
        clear HRU HRW HB5 d1 d2 hQt hRt HES;obtain⟨q,rfl,HGD3,HRU,HRW,HB5⟩:=hcut
        have HQD:=Lh (sW U1 V n j q hn2 HS.out.2 (by
         obtain⟨y1,y2,y3,y4,y5⟩:=HNUM.out;rw[show j+n-1=t1 by omega,show j+n-2=t2 by omega,y4,y5,HTW.out,HDZ.out,← HGP.out,← HGQ.out,HDD.out];exact HGD3.out))
        have hq32:q<4294967296:=HGD3.out.1;clear i2 i3 i4 i5 b2 b3 b4 b5 lX lY lZ HLD hA0 hA1 lB hT64 hAp HTW HDZ HGP HGQ HGD3 HXS;go_wp2_with fail;go_loopw [20,21,190] (fun s20 s21 s190 wq=>∃ (i cc bo:Nat) (F2:Nat→Nat),i≤n∧s190 = .int .i64 (i:Int)∧s20 = .int .u64 (cc:Int)∧s21 = .int .i64 (-(bo:Int))∧Hid (Ms F2 cc bo G U1 q j i L)∧Hid (∀ k,tt<k→k<L→F2 k=0)∧Hid (wq.rowIs gu 125 cap (fun i => .int .u32 ((F2 i:Nat):Int)))∧Hid (wq.rowIs gw 125 (K+1) (fun i => .int .u32 ((G1 i:Nat):Int)))∧Hid (Below x2.heap.size x2 wq)) (fun _ _ s190 _=>n-(intOf s190).toNat)
        case atStart=>exact⟨0,0,0,F1,Nat.zero_le _,rfl,rfl,rfl,yf HQ.out.digF HU1.out,HZH,HRU,HRW,HB5⟩
        case round =>
         clear HRU HRW HB5;obtain⟨i,cc,bo,F2,hi,rfl,rfl,rfl,HM,HZ2,HRU,HRW,HB5⟩:=hrel;have hcc:=HM.out.hc;have hbo:=HM.out.hb;obtain⟨C,hC⟩:∃ C:Int,-(bo:Int)=C:=⟨_,rfl⟩;have HC:=Lh hC;have hC1 : -1≤C:=by omega
         have hC2:C≤0:=by omega
         rw[hC];by_cases hin:i<n
         ·have cU:=HRU.out.cell (show i+j<cap by have:=HNUM.out;omega);have fU:=HRU.out.frozen (i+j);have cV:=HVI2.out i hin _ HB5.out;have lx:=HM.out.dig (i+j);have lg:=HGD.out i;have HN:=Lh (Bi HM.out hq32 lg (by have:=HNUM.out;omega));obtain⟨ij,hij⟩:∃ k,i+j=k:=⟨_,rfl⟩;rw[hij] at cU fU lx HN;obtain⟨x,hx⟩:∃ x,F2 ij=x:=⟨_,rfl⟩;obtain⟨gi,hgi⟩:∃ x,G i=x:=⟨_,rfl⟩;rw[hx] at cU lx HN;rw[hgi] at cV lg HN;obtain⟨z,hz⟩:∃ z,q*gi=z:=⟨_,rfl⟩;rw[hz] at HN;have hz1:(q:Int)*(gi:Int)=(z:Int):=by rw[← hz];push_cast;rfl
          have hz2:z≤18446744065119617025:=by
           rw[← hz];exact Nat.mul_le_mul (show q≤4294967295 by omega) (show gi≤4294967295 by omega)
          obtain⟨low,hlow⟩:∃ y,(cc+z)%4294967296=y:=⟨_,rfl⟩;have lw:low<4294967296:=by omega
          have hlw:((cc:Int)+(z:Int))%4294967296=(low:Int):=by omega
          rw[hlow] at HN;have i2:(i:Int)+(j:Int)=(ij:Int):=by omega
          have i3:ij<L:=by have:=HNUM.out;omega
          have i4:(i:Int)<(n:Int):=by omega
          have i5:(0:Int)≤(i:Int):=by omega
          have HIJ:Hid (ij<tt):=by show _<_;have:=HNUM.out;omega
          clear hC hx hgi hz hlow hij;go_wp2_with fail;refine⟨⟨i+1,(cc+z)/4294967296,mbor x low bo,setD F2 ij (mdig x low bo),by omega,by go_num,by first|rfl|go_num,?_,HN,?_,?_,?_,?_⟩,by simp[intOf];omega⟩
          ·rw[qO x low bo C HC.out.symm lw lx hbo]
          ·exact fun k h1 h2=>by unfold setD;rw[if_neg (by have:=HIJ.out;omega)];exact HZ2.out k h1 h2
          ·exact gQ HRU.out _ _ (qN x low bo C HC.out.symm lw lx hbo)
          ·exact HRW.out.setOther (by have:=hgne.out.1;simp;omega) _
          ·exact HB5.out.setCell hgu _
         ·obtain rfl:n=i:=by omega
          have cU:=HRU.out.cell (show tt<cap by omega);have fU:=HRU.out.frozen tt;have lx:=HM.out.dig tt;have HN:=Lh (ye HM.out (by have:=HNUM.out;omega));have HNJ:Hid (n+j=tt):=by show _=_;have:=HNUM.out;omega
          rw[HNJ.out] at HN;obtain⟨x,hx⟩:∃ x,F2 tt=x:=⟨_,rfl⟩;rw[hx] at cU lx HN;have HD3:Hid (∀ k,setD F2 tt (mdig x cc bo) k<4294967296):=ej HM.out.dig _ _ (uh _ _ _);have HZ3:Hid (∀ k,tt<k→k<L→setD F2 tt (mdig x cc bo) k=0):=fun k h1 h2=>by unfold setD;rw[if_neg (by omega)];exact HZ2.out k h1 h2
          have HRU3:Hid (∀ v:Int,v=((mdig x cc bo:Nat):Int)→(wr.setCell ⟨gu,tt,none⟩ (.int .u32 v)).rowIs gu 125 cap (fun i => .int .u32 ((setD F2 tt (mdig x cc bo) i:Nat):Int))):=fun v hv=>gQ HRU.out _ _ hv;have hsm:=nN _ HD3.out L (tt+1) (by omega) (fun k h1 h2=>HZ3.out k (by omega) h2);have hmd:=qN x cc bo C HC.out.symm hcc lx hbo;have hmb:=qO x cc bo C HC.out.symm hcc lx hbo;have HBL:=Lh (uj x cc bo);obtain⟨F3,hF3⟩:∃ F,setD F2 tt (mdig x cc bo)=F:=⟨_,rfl⟩;rw[hF3] at HN HD3 HZ3 HRU3 hsm;obtain⟨y,hy⟩:∃ y,mdig x cc bo=y:=⟨_,rfl⟩;rw[hy] at hmd HRU3;obtain⟨b',hb'⟩:∃ y,mbor x cc bo=y:=⟨_,rfl⟩;rw[hb'] at HN hmb HBL;have hny:¬ (n:Int)<(n:Int):=by omega
          have HSM:=Lh hsm;have HW0:Hid (0<V*4294967296^j):=Nat.mul_pos hV0 (Nat.pow_pos (by decide))
          have HNV:Hid (nvf F3 L+q*(V*4294967296^j)=U1+b'*4294967296^(tt+1)):=by
           show _=_;have:=HN.out;rwa [HGV.out,Nat.mul_assoc] at this
          clear hx hF3 hy hb' hsm hin hC HN;by_cases hb0:b'=0
          ·subst hb0;have hmb0:(C+((x:Int)-(cc:Int)))/4294967296=0:=by rw[hmb];rfl
           clear hmb;have hdo:=tC (nvf F3 L) U1 (V*4294967296^j) q HW0.out (by have:=HNV.out;rwa [Nat.zero_mul,Nat.add_zero] at this) HQD.out;have HNX:=Lh (tW (q:=q) HQ.out (by omega:j<K+1) hV0 HD3.out (by rw[HU1.out];exact hdo.1) (by rw[HU1.out];exact hdo.2));have fW:=HRW.out.frozen j;have cW:=HRW.out.cell (show j<K+1 by omega);have nW:¬ gw=gu:=fun e=>hgne.out.1 e.symm;have nW2:¬ gu=gw:=hgne.out.1;have jK:(j:Int)<(K:Int)+1:=by omega
           clear hdo;go_wp2_with fail;refine⟨⟨j,F3,setD G1 j q,by omega,rfl,by rw[HVE.out];exact HNX,?_,?_,?_⟩,(by first|(simp[intOf];done)|(simp[intOf];omega))⟩
           ·exact(HRU3.out _ (by omega)).setOther nW2 _
           ·exact gQ (HRW.out.setOther nW _) q _ rfl
           ·exact(HB5.out.setCell hgu _).setCell hgne.out.2 _
          ·obtain rfl:b'=1:=by have:=HBL.out;omega
           have hmb0:(C+((x:Int)-(cc:Int)))/4294967296 = -1:=by rw[hmb];rfl
           obtain⟨A3,hA3⟩:∃ A,nvf F3 L=A:=⟨_,rfl⟩;have HA3:=Lh hA3;rw[hA3] at HNV HSM
           have hq0:q≠0:=by
            intro h0;have h1:=HNV.out;have h2:=HSM.out;rw[h0,Nat.zero_mul] at h1;omega
           obtain⟨q',hq'⟩:∃ q',q-1=q':=⟨_,rfl⟩;have kq:(q:Int)-1=(q':Int):=by omega
           have lq:q'<4294967296:=by omega
           have HQ':=Lh hq'
           have HWP:Hid (V*4294967296^j≤4294967296^(tt+1)):=by
            show _≤_;refine Nat.le_trans (Nat.mul_le_mul_right _ (Nat.le_of_lt HS.out.1)) ?_;rw[← Nat.pow_add];exact Nat.pow_le_pow_right (by decide) (by have:=HNJ.out;omega)
           clear hmb hb0 hA3 hq0 hq';go_wp2_with fail;go_loopw [20,254] (fun s20 s254 wq=>∃ (i cc:Nat) (F4:Nat→Nat),i≤n∧s254 = .int .i64 (i:Int)∧s20 = .int .u64 (cc:Int)∧Hid (Ab F4 cc G A3 j i L)∧Hid (∀ k,tt<k→k<L→F4 k=0)∧Hid (wq.rowIs gu 125 cap (fun i => .int .u32 ((F4 i:Nat):Int)))∧Hid (wq.rowIs gw 125 (K+1) (fun i => .int .u32 ((G1 i:Nat):Int)))∧Hid (Below x2.heap.size x2 wq)) (fun _ s254 _=>n-(intOf s254).toNat)
           case atStart=>exact⟨0,0,F3,Nat.zero_le _,rfl,rfl,zL HD3.out HA3.out,HZ3,HRU3.out _ (by omega),HRW.out.setOther (fun e=>hgne.out.1 e.symm) _,HB5.out.setCell hgu _⟩
           case round =>
            clear HRU HRW HB5 HRU3 hmd hmb0 cU fU lx HM HZ2;obtain⟨i,c4,F4,hi,rfl,rfl,HM,HZ2,HRU,HRW,HB5⟩:=hrel;have hcc4:=HM.out.hc;by_cases hin:i<n
            ·have cU:=HRU.out.cell (show i+j<cap by have:=HNUM.out;omega);have fU:=HRU.out.frozen (i+j);have cV:=HVI2.out i hin _ HB5.out;have lx:=HM.out.dig (i+j);have lg:=HGD.out i;have HN:=Lh (Cu HM.out lg (by have:=HNUM.out;omega));obtain⟨ij,hij⟩:∃ k,i+j=k:=⟨_,rfl⟩;rw[hij] at cU fU lx HN;obtain⟨x',hx⟩:∃ x,F4 ij=x:=⟨_,rfl⟩;obtain⟨gi,hgi⟩:∃ x,G i=x:=⟨_,rfl⟩;rw[hx] at cU lx HN;rw[hgi] at cV lg HN;have i2:(i:Int)+(j:Int)=(ij:Int):=by omega
             have i3:ij<L:=by have:=HNUM.out;omega
             have i4:(i:Int)<(n:Int):=by omega
             have i5:(0:Int)≤(i:Int):=by omega
             have HIJ:Hid (ij<tt):=by show _<_;have:=HNUM.out;omega
             clear hx hgi hij;go_wp2_with fail;go_region
             go_wp2_with fail;refine⟨⟨i+1,(c4+x'+gi)/4294967296,setD F4 ij ((c4+x'+gi)%4294967296),by omega,by go_num,by rw[zg,Int.add_assoc],HN,?_,?_,?_,?_⟩,(by first|(simp[intOf];done)|(simp[intOf];omega))⟩
             ·exact fun k h1 h2=>by unfold setD;rw[if_neg (by have:=HIJ.out;omega)];exact HZ2.out k h1 h2
             ·exact(gQ HRU.out _ _ (by rw[yY,Int.add_assoc])).drew
             ·exact(HRW.out.setOther (by have:=hgne.out.1;simp;omega) _).drew
             ·exact(HB5.out.setCell hgu _).drew
            ·obtain rfl:n=i:=by omega
             have cU:=HRU.out.cell (show tt<cap by omega);have fU:=HRU.out.frozen tt;have lx:=HM.out.dig tt;have HN:=Lh (zK HM.out (by have:=HNUM.out;omega));rw[HNJ.out] at HN;have HD5:Hid (∀ k,setD F4 tt ((F4 tt+c4)%4294967296) k<4294967296):=ej HM.out.dig _ _ (Nat.mod_lt _ (by decide));have HZ5:Hid (∀ k,tt<k→k<L→setD F4 tt ((F4 tt+c4)%4294967296) k=0):=fun k h1 h2=>by unfold setD;rw[if_neg (by omega)];exact HZ2.out k h1 h2
             have HRU5:Hid (∀ v:Int,v=(((F4 tt+c4)%4294967296:Nat):Int)→(wr.setCell ⟨gu,tt,none⟩ (.int .u32 v)).rowIs gu 125 cap (fun i => .int .u32 ((setD F4 tt ((F4 tt+c4)%4294967296) i:Nat):Int))):=fun v hv=>gQ HRU.out _ _ hv;have hsm:=nN _ HD5.out L (tt+1) (by omega) (fun k h1 h2=>HZ5.out k (by omega) h2);obtain⟨x5,hx⟩:∃ x,F4 tt=x:=⟨_,rfl⟩;rw[hx] at cU lx HN HD5 HZ5 HRU5 hsm;obtain⟨y5,hy⟩:∃ y,(x5+c4)%4294967296=y:=⟨_,rfl⟩;rw[hy] at HN HD5 HZ5 HRU5 hsm;obtain⟨F5,hF5⟩:∃ F,setD F4 tt y5=F:=⟨_,rfl⟩;rw[hF5] at HN HD5 HZ5 HRU5 hsm;have e5:((x5:Int)+(c4:Int))%4294967296=(y5:Int):=by omega
             have hny:¬ (n:Int)<(n:Int):=by omega
             have hdt:=ro A3 (nvf F5 L) U1 (V*4294967296^j) q ((x5+c4)/4294967296) (4294967296^(tt+1)) HW0.out HWP.out (by have:=HNV.out;rwa [Nat.one_mul] at this) HSM.out (by have:=HN.out;rwa [HGV.out] at this) hsm HQD.out;rw[HQ'.out] at hdt;have HNX:=Lh (tW (q:=q') HQ.out (by omega:j<K+1) hV0 HD5.out (by rw[HU1.out];exact hdt.1) (by rw[HU1.out];exact hdt.2));have fW:=HRW.out.frozen j;have cW:=HRW.out.cell (show j<K+1 by omega);have nW:¬ gw=gu:=fun e=>hgne.out.1 e.symm;have nW2:¬ gu=gw:=hgne.out.1;have jK:(j:Int)<(K:Int)+1:=by omega
             clear hdt hx hy hF5 hsm HN hin hi HM HZ2;go_wp2_with fail;refine⟨⟨j,F5,setD G1 j q',by omega,rfl,by rw[HVE.out];exact HNX,?_,?_,?_⟩,(by first|(simp[intOf];done)|(simp[intOf];omega))⟩
             ·exact(HRU5.out _ (by omega)).setOther nW2 _
             ·exact gQ (HRW.out.setOther nW _) q' _ rfl
             ·exact(HB5.out.setCell hgu _).setCell hgne.out.2 _
open Go.RowKit
theorem rN (M:Nat) (h:¬ M<4294967296):2≤(dg M).length:=by
 rw[fj M (by omega),fj (M/4294967296) (by omega)];simp
theorem mm (a b:Value) (N M:Nat) (w:World) (ha:Rd w a (dg N)) (hb:Rd w b (dg M)) (h0:M≠0) (hx:(dg N).length≤500000) :
  Calls Tryz.prog 129 #[a,b] w fun e w'=>uT w w' e N M:=by
 rcases Nat.lt_or_ge N M with h|h
 ·exact vx a b N M w ha hb h
 ·by_cases hM:M<4294967296
  ·exact AW a b N M w ha hb h h0 hM (Nat.le_trans hx (by decide))
  ·exact xH a b N M w ha hb h (rN M hM) hx
open Go.RowKit
theorem nw (w:World):ap w (.agg #[.bool false,.bool false,.slice none 0 0]) (WI.of 0):=by
 have h:(WI.of 0).v=some 0:=WI.of_v (by rw[show(0:Int).natAbs=0 from rfl];exact dP);have h1:(WI.of 0).ng=false:=by unfold WI.ng;rw[h];rfl
 have h2:(WI.of 0).ov=false:=by unfold WI.ov;rw[h];rfl
 have h3:(WI.of 0).sz=0:=by unfold WI.sz;rw[h];rfl
 refine⟨.slice none 0 0,by rw[h1,h2],?_⟩;rw[h3,bp];exact Rd.nil _
theorem tB (a b:Value) (x y:WI) (w:World) (ha:ap w a x) (hb:ap w b y) :
  Calls Tryz.prog 120 #[a,b] w fun e w'=>(∃ v,e = .returned (.tuple #[v,.int .i64 (x.div y).2])∧ap w' v (x.div y).1)∧Below w.heap.size w w':=by
 obtain⟨A,cap,rfl,hs⟩:=ha.opened;obtain⟨B,cbp,rfl,ht⟩:=hb.opened;have HS:=Lh hs;have HT:=Lh ht;clear hs ht ha hb;cases hx:x.ov with
 | true =>
  rw[WI.div_over x y (.inl hx)];go_enter Tryz.func120,Tryz.ntmps120;go_wp2_with fail;exact rT 3 #[.bool false,.bool false,.slice none 0 0] (.int .i64 2) ⟨⟨_,rfl,nw _⟩,ae⟩
 | false =>
  cases hy:y.ov with
  | true =>
   rw[WI.div_over x y (.inr hy)];go_enter Tryz.func120,Tryz.ntmps120;go_wp2_with fail;exact rT 3 #[.bool false,.bool false,.slice none 0 0] (.int .i64 2) ⟨⟨_,rfl,nw _⟩,ae⟩
  | false =>
   by_cases h0:y.sz=0
   ·rw[WI.div_zero x y hx hy h0];have h1:(dg y.sz).length=0:=by rw[h0,bp];rfl
    rw[h1];go_enter Tryz.func120,Tryz.ntmps120;go_wp2_with fail;exact rT 3 #[.bool false,.bool false,.slice none 0 0] (.int .i64 1) ⟨⟨_,rfl,nw _⟩,ae⟩
   ·rw[WI.div_some x y hx hy h0];have h1:¬ (dg y.sz).length=0:=fun e=>h0 ((d6 _).1 (List.length_eq_zero_iff.1 e));have HLX:Hid ((dg x.sz).length≤500000):=Nat.le_trans (fP x) (by decide);have HLQ:Hid ((dg (x.sz/y.sz)).length≤1000000):=Nat.le_trans (bV (Nat.div_le_self _ _)) (Nat.le_trans (fP x) (by decide));have H0:=Lh h0;obtain⟨n,hn⟩:∃ n,x.ng=n:=⟨_,rfl⟩;obtain⟨m,hm⟩:∃ n,y.ng=n:=⟨_,rfl⟩;obtain⟨N,hN⟩:∃ n,x.sz=n:=⟨_,rfl⟩;obtain⟨M,hM⟩:∃ n,y.sz=n:=⟨_,rfl⟩;rw[hn,hm,hN,hM];rw[hN] at HS HLX;rw[hM] at HT h1 H0;rw[hN,hM] at HLQ;clear hn hm hN hM hx hy h0;obtain⟨x2,hx2⟩:∃ z,z=WI.of (sgn (n != m) (if ((n != m)&&decide (N%M≠0))=true then N/M+1 else N/M)):=⟨_,rfl⟩;rw[← hx2];have HV:Hid (((n != m)&&decide (N%M≠0))=false→Hid (WI.of (sgn (n != m) (nv (dg (N/M))))=x2)):=fun h=>by rw[aY,hx2,h];exact rfl
    have HV1:Hid (((n != m)&&decide (N%M≠0))=true→Hid (WI.of (sgn (n != m) (nv (dg (nv (dg (N/M))+nv [1]))))=x2)):=fun h=>by rw[aY,aY,hx2,h];exact rfl
    clear hx2;cases n with
    | false =>
     cases m with
     | false =>
      go_enter Tryz.func120,Tryz.ntmps120;go_wp2_with fail;refine(mm _ _ N M _ (HS.out.below ae) (HT.out.below ae) H0.out HLX.out).mono ?_;rintro e w2 ⟨⟨q,r,rfl,hq,hr⟩,hb2⟩;have z_w2:=hb2.size;(try simp at z_w2);have K_w2_0:=bq3 hb2 (w.heap.size);obtain⟨A1,cap1,rfl⟩:=hq.form;obtain⟨A3,cap3,rfl⟩:=hr.form;have HQ:=Lh hq;clear hq hr;go_wp2_with fail;refine(eA _ _ _ _ x2 (HV.out rfl) (HQ.out.below ae)).mono ?_;rintro e w3 ⟨⟨v,rfl,hv⟩,hb3⟩;have z_w3:=hb3.size;(try simp at z_w3);have K_w3_0:=bq3 hb3 (w.heap.size);obtain⟨A2,cap2,rfl,hs2⟩:=hv.opened;have HS2:=Lh hs2;clear hs2 hv;go_wp2_with fail;exact rT 3 #[.bool x2.ng,.bool x2.ov,.slice A2 (dg x2.sz).length cap2] (.int .i64 0) ⟨⟨_,rfl,ap.mk (HS2.out.res (by go_simp) (by go_simp) (by go_simp) _ _ _)⟩,ae⟩
     | true =>
      by_cases hr0:N%M=0
      ·have l0:(dg (N%M)).length=0:=by rw[hr0,bp];rfl
       have HVV:=Lh (HV.out (by simp[hr0]));go_enter Tryz.func120,Tryz.ntmps120;go_wp2_with fail;refine(mm _ _ N M _ (HS.out.below ae) (HT.out.below ae) H0.out HLX.out).mono ?_;rintro e w2 ⟨⟨q,r,rfl,hq,hr⟩,hb2⟩;have z_w2:=hb2.size;(try simp at z_w2);have K_w2_0:=bq3 hb2 (w.heap.size);obtain⟨A1,cap1,rfl⟩:=hq.form;obtain⟨A3,cap3,rfl⟩:=hr.form;have HQ:=Lh hq;clear hq hr;rw[l0];go_wp2_with fail;refine(eA _ _ _ _ x2 (HVV.out) (HQ.out.below ae)).mono ?_;rintro e w3 ⟨⟨v,rfl,hv⟩,hb3⟩;have z_w3:=hb3.size;(try simp at z_w3);have K_w3_0:=bq3 hb3 (w.heap.size);obtain⟨A2,cap2,rfl,hs2⟩:=hv.opened;have HS2:=Lh hs2;clear hs2 hv;go_wp2_with fail;exact rT 3 #[.bool x2.ng,.bool x2.ov,.slice A2 (dg x2.sz).length cap2] (.int .i64 0) ⟨⟨_,rfl,ap.mk (HS2.out.res (by go_simp) (by go_simp) (by go_simp) _ _ _)⟩,ae⟩
      · have l0 : 0 < (dg (N % M)).length := by
          have:(dg (N%M)).length≠0:=fun e=>hr0 ((d6 _).1 (List.length_eq_zero_iff.1 e));omega
        have HVV:=Lh (HV1.out (by simp[hr0]));clear hr0;go_enter Tryz.func120,Tryz.ntmps120;go_wp2_with fail;refine(mm _ _ N M _ (HS.out.below ae) (HT.out.below ae) H0.out HLX.out).mono ?_;rintro e w2 ⟨⟨q,r,rfl,hq,hr⟩,hb2⟩;have z_w2:=hb2.size;(try simp at z_w2);have K_w2_0:=bq3 hb2 (w.heap.size);obtain⟨A1,cap1,rfl⟩:=hq.form;obtain⟨A3,cap3,rfl⟩:=hr.form;have HQ:=Lh hq;clear hq hr;go_wp2_with fail;refine(jB _ _ _ [1] _ (HQ.out.below ae) (Rd.one (by decide) (by first|omega|(simp;done)|(simp;omega)|fail) (by go_simp)) HLQ.out (by decide)).mono ?_;rintro e w4 ⟨⟨s4,rfl,hs4⟩,hb4⟩;have z_w4:=hb4.size;(try simp at z_w4);have K_w4_0:=bq3 hb4 (w.heap.size);obtain⟨A4,cap4,rfl⟩:=hs4.form;have HW4:=Lh hs4;clear hs4;go_wp2_with fail;refine(eA _ _ _ _ x2 (HVV.out) (HW4.out.below ae)).mono ?_;rintro e w3 ⟨⟨v,rfl,hv⟩,hb3⟩;have z_w3:=hb3.size;(try simp at z_w3);have K_w3_0:=bq3 hb3 (w.heap.size);obtain⟨A2,cap2,rfl,hs2⟩:=hv.opened;have HS2:=Lh hs2;clear hs2 hv;go_wp2_with fail;exact rT 3 #[.bool x2.ng,.bool x2.ov,.slice A2 (dg x2.sz).length cap2] (.int .i64 0) ⟨⟨_,rfl,ap.mk (HS2.out.res (by go_simp) (by go_simp) (by go_simp) _ _ _)⟩,ae⟩
    | true =>
     cases m with
     | false =>
      by_cases hr0:N%M=0
      ·have l0:(dg (N%M)).length=0:=by rw[hr0,bp];rfl
       have HVV:=Lh (HV.out (by simp[hr0]));go_enter Tryz.func120,Tryz.ntmps120;go_wp2_with fail;refine(mm _ _ N M _ (HS.out.below ae) (HT.out.below ae) H0.out HLX.out).mono ?_;rintro e w2 ⟨⟨q,r,rfl,hq,hr⟩,hb2⟩;have z_w2:=hb2.size;(try simp at z_w2);have K_w2_0:=bq3 hb2 (w.heap.size);obtain⟨A1,cap1,rfl⟩:=hq.form;obtain⟨A3,cap3,rfl⟩:=hr.form;have HQ:=Lh hq;clear hq hr;rw[l0];go_wp2_with fail;refine(eA _ _ _ _ x2 (HVV.out) (HQ.out.below ae)).mono ?_;rintro e w3 ⟨⟨v,rfl,hv⟩,hb3⟩;have z_w3:=hb3.size;(try simp at z_w3);have K_w3_0:=bq3 hb3 (w.heap.size);obtain⟨A2,cap2,rfl,hs2⟩:=hv.opened;have HS2:=Lh hs2;clear hs2 hv;go_wp2_with fail;exact rT 3 #[.bool x2.ng,.bool x2.ov,.slice A2 (dg x2.sz).length cap2] (.int .i64 0) ⟨⟨_,rfl,ap.mk (HS2.out.res (by go_simp) (by go_simp) (by go_simp) _ _ _)⟩,ae⟩
      · have l0 : 0 < (dg (N % M)).length := by
          have:(dg (N%M)).length≠0:=fun e=>hr0 ((d6 _).1 (List.length_eq_zero_iff.1 e));omega
        have HVV:=Lh (HV1.out (by simp[hr0]));clear hr0;go_enter Tryz.func120,Tryz.ntmps120;go_wp2_with fail;refine(mm _ _ N M _ (HS.out.below ae) (HT.out.below ae) H0.out HLX.out).mono ?_;rintro e w2 ⟨⟨q,r,rfl,hq,hr⟩,hb2⟩;have z_w2:=hb2.size;(try simp at z_w2);have K_w2_0:=bq3 hb2 (w.heap.size);obtain⟨A1,cap1,rfl⟩:=hq.form;obtain⟨A3,cap3,rfl⟩:=hr.form;have HQ:=Lh hq;clear hq hr;go_wp2_with fail;refine(jB _ _ _ [1] _ (HQ.out.below ae) (Rd.one (by decide) (by first|omega|(simp;done)|(simp;omega)|fail) (by go_simp)) HLQ.out (by decide)).mono ?_;rintro e w4 ⟨⟨s4,rfl,hs4⟩,hb4⟩;have z_w4:=hb4.size;(try simp at z_w4);have K_w4_0:=bq3 hb4 (w.heap.size);obtain⟨A4,cap4,rfl⟩:=hs4.form;have HW4:=Lh hs4;clear hs4;go_wp2_with fail;refine(eA _ _ _ _ x2 (HVV.out) (HW4.out.below ae)).mono ?_;rintro e w3 ⟨⟨v,rfl,hv⟩,hb3⟩;have z_w3:=hb3.size;(try simp at z_w3);have K_w3_0:=bq3 hb3 (w.heap.size);obtain⟨A2,cap2,rfl,hs2⟩:=hv.opened;have HS2:=Lh hs2;clear hs2 hv;go_wp2_with fail;exact rT 3 #[.bool x2.ng,.bool x2.ov,.slice A2 (dg x2.sz).length cap2] (.int .i64 0) ⟨⟨_,rfl,ap.mk (HS2.out.res (by go_simp) (by go_simp) (by go_simp) _ _ _)⟩,ae⟩
     | true =>
      go_enter Tryz.func120,Tryz.ntmps120;go_wp2_with fail;refine(mm _ _ N M _ (HS.out.below ae) (HT.out.below ae) H0.out HLX.out).mono ?_;rintro e w2 ⟨⟨q,r,rfl,hq,hr⟩,hb2⟩;have z_w2:=hb2.size;(try simp at z_w2);have K_w2_0:=bq3 hb2 (w.heap.size);obtain⟨A1,cap1,rfl⟩:=hq.form;obtain⟨A3,cap3,rfl⟩:=hr.form;have HQ:=Lh hq;clear hq hr;go_wp2_with fail;refine(eA _ _ _ _ x2 (HV.out rfl) (HQ.out.below ae)).mono ?_;rintro e w3 ⟨⟨v,rfl,hv⟩,hb3⟩;have z_w3:=hb3.size;(try simp at z_w3);have K_w3_0:=bq3 hb3 (w.heap.size);obtain⟨A2,cap2,rfl,hs2⟩:=hv.opened;have HS2:=Lh hs2;clear hs2 hv;go_wp2_with fail;exact rT 3 #[.bool x2.ng,.bool x2.ov,.slice A2 (dg x2.sz).length cap2] (.int .i64 0) ⟨⟨_,rfl,ap.mk (HS2.out.res (by go_simp) (by go_simp) (by go_simp) _ _ _)⟩,ae⟩
open Go.RowKit
theorem DQ (s:Value) (xs:List Nat) (j:Nat) (k:Int) (w:World) (hk:k=(j:Int)) (hs:Rd w s xs) (hx:xs.length≤1000000) (hj:j≤1000000) :
  Calls Tryz.prog 109 #[s,.int .i64 k] w fun e w'=>(∃ s',e = .returned s'∧Rd w' s' (dg (nv xs*2^j)))∧Below w.heap.size w w':=by
 subst hk;exact sJ s xs j w hs hx hj
theorem Bm (c k:Nat) (h:c+1<32*k):(dg (2^(c+1))).length≤k:=by
 refine dF _ _ ?_;rw[show(4294967296:Nat)=2^32 from rfl,← Nat.pow_mul];exact Nat.pow_lt_pow_right (by decide) h
theorem Bn (a b k:Nat) (ha:(dg a).length≤k) (hb:(dg b).length≤k):(dg (a+b)).length≤k+1:=by
 have h2:=rs a;have h3:=rs b;have h4:=Nat.pow_le_pow_right (n:=4294967296) (by decide) ha;have h6:=Nat.pow_le_pow_right (n:=4294967296) (by decide) hb;refine dF _ _ ?_;rw[Nat.pow_succ];generalize 4294967296^k=P at *;omega
theorem Ft:rt 0=0:=jA (by decide) (by decide)
theorem rQ (a:Value) (x:WI) (w:World) (ha:ap w a x) (h:x.ov=true∨x.ng=true∨x.sz=0) :
  Calls Tryz.prog 83 #[a] w fun e w'=>(∃ v,e = .returned (.tuple #[v,.int .i64 x.sqrt.2])∧ap w' v x.sqrt.1)∧Below w.heap.size w w':=by
 obtain⟨A,cap,rfl,hs⟩:=ha.opened;clear hs ha;cases ho:x.ov with
 | true =>
  rw[WI.nC x ho];go_enter Tryz.func83,Tryz.ntmps83;go_wp2_with fail;exact rT 3 #[.bool false,.bool false,.slice none 0 0] (.int .i64 2) ⟨⟨_,rfl,nw _⟩,ae⟩
 | false =>
  cases hn:x.ng with
  | true =>
   rw[WI.qc x ho hn];go_enter Tryz.func83,Tryz.ntmps83;go_wp2_with fail;exact rT 3 #[.bool false,.bool false,.slice none 0 0] (.int .i64 1) ⟨⟨_,rfl,nw _⟩,ae⟩
  | false =>
   have h0:x.sz=0:=by rw[ho,hn] at h;simpa using h
   have h1:(dg x.sz).length=0:=by rw[h0,bp];rfl
   rw[WI.iR x ho hn,h1,h0,Ft];clear h h0 h1;go_enter Tryz.func83,Tryz.ntmps83;go_wp2_with fail;exact rT 3 #[.bool false,.bool false,.slice none 0 0] (.int .i64 0) ⟨⟨_,rfl,nw _⟩,ae⟩
theorem rP (a:Value) (x:WI) (w:World) (ha:ap w a x) (ho:x.ov=false) (hn:x.ng=false) (h0:x.sz≠0) :
  Calls Tryz.prog 83 #[a] w fun e w'=>(∃ v,e = .returned (.tuple #[v,.int .i64 x.sqrt.2])∧ap w' v x.sqrt.1)∧Below w.heap.size w w':=by
 obtain⟨A,cap,rfl,hs⟩:=ha.opened;rw[WI.iR x ho hn,ho,hn];have hbl:=(iE x.sz).2 x.jX;have hfew:=fP x;obtain⟨N,hN⟩:∃ n,x.sz=n:=⟨_,rfl⟩;rw[hN] at hs h0 hbl hfew ⊢;obtain⟨x2,hx2⟩:∃ x,WI.of ((rt N:Nat):Int)=x:=⟨_,rfl⟩;have HX2:=Lh hx2;rw[hx2];have HS:=Lh hs;have HF:Hid ((dg N).length≤32):=hfew;have H0:Hid (0<N):=Nat.pos_of_ne_zero h0;have h1:¬ (dg N).length=0:=fun e=>h0 ((d6 _).1 (List.length_eq_zero_iff.1 e));obtain⟨b,hb⟩:∃ b,bl N=b:=⟨_,rfl⟩;have HB:=Lh hb;rw[hb] at hbl;obtain⟨c,hc⟩:∃ c,b/2=c:=⟨_,rfl⟩;have hc2:c≤511:=by omega
 have HN1:=Lh (i7 N (c+1) (by omega));have k2:(b:Int).tdiv 2=(c:Int):=by rw[Int.tdiv_eq_ediv_of_nonneg (by omega)];omega
 clear hs ha h0 hN hb hc ho hn hbl hfew hx2;go_enter Tryz.func83,Tryz.ntmps83;go_wp2_with fail;refine(zi _ N _ (HS.out.below ae)).mono ?_;rintro e w1 ⟨rfl,rfl⟩;rw[HB.out];go_wp2_with fail;refine(DQ _ [1] (c+1) _ _ (by first|rfl|go_num) (Rd.one (by decide) (by first|omega|(simp;done)|(simp;omega)|fail) (by go_simp)) (by decide) (by omega)).mono ?_;rintro e w2 ⟨⟨s2,rfl,hs2⟩,hb2⟩;rw[show nv [1]=1 from rfl,Nat.one_mul] at hs2;obtain⟨A2,cap2,rfl⟩:=hs2.form;have HX0:=Lh hs2;have Q0:Hid (Blk w2 w.heap.size #[.bool false,.bool false,.slice A (dg N).length cap] 52):=(((Blk.new _ _ _).alloc _).alloc _).keep hb2;have Q1:Hid (Blk w2 (w.heap.size+1) #[.bool false,.bool false,.slice none 0 0] 52):=((Blk.new' _ _ _ (by simp)).alloc _).keep hb2;have HB2:Hid (Below w.heap.size w w2):=ae;have HX1:Hid ((dg (2^(c+1))).length≤100):=Bm c 100 (by omega);clear hs2 hb2;go_wp2_with fail;go_loopg [4,5,6,7,8] (2^(c+1)) (fun X s4 _ _ _ _ wx=>∃ A4 c4,s4 = .slice A4 (dg X).length c4∧Hid (Rd wx (.slice A4 (dg X).length c4) (dg X))∧Hid (0<X∧N<(X+1)*(X+1)∧(dg X).length≤100)∧Hid (Below w.heap.size w wx)∧Hid (Blk wx w.heap.size #[.bool false,.bool false,.slice A (dg N).length cap] 52)∧Hid (Blk wx (w.heap.size+1) #[.bool false,.bool false,.slice none 0 0] 52))
 case atStart=>exact⟨A2,cap2,rfl,HX0,⟨Nat.two_pow_pos _,HN1.out,HX1.out⟩,HB2,Q0,Q1⟩
 case round =>
  clear HX0 HB2 Q0 Q1 HX1;obtain⟨A4,c4,rfl,HX,HI,HB2,Q0,Q1⟩:=hrel;have q0:wr.cell? ⟨w.heap.size,0,none⟩=some (.bool false):=Q0.out.cell (i:=0) rfl;have q1:wr.cell? ⟨w.heap.size,1,none⟩=some (.bool false):=Q0.out.cell (i:=1) rfl;have q2:wr.cell? ⟨w.heap.size,2,none⟩=some (.slice A (dg N).length cap):=Q0.out.cell (i:=2) rfl;have ql:=Q0.out.lt;obtain⟨S,hS⟩:∃ S,N/gk=S:=⟨_,rfl⟩;obtain⟨Y,hY⟩:∃ Y,(gk+S)/2=Y:=⟨_,rfl⟩;have hstep:=ku (N:=N) HI.out.1;have hstop:=fun h=>ko (N:=N) HI.out.1 HI.out.2.1 h;rw[hS,hY] at hstep hstop
  have hY0:0<Y:=by
   rcases Nat.eq_zero_or_pos Y with h|h
   ·rw[h] at hstep;have:=H0.out;omega
   ·exact h
  have HSV:=Lh hS;have HYV:=Lh hY
  have HSL:Hid ((dg S).length≤1000000):=by
   refine Nat.le_trans (bV ?_) (Nat.le_trans HF.out (by decide));rw[← hS];exact Nat.div_le_self _ _
  have HYL:Hid ((dg (gk+S)).length≤1000000):=by
   refine Nat.le_trans (Bn gk S 100 HI.out.2.2 (Nat.le_trans (bV ?_) (Nat.le_trans HF.out (by decide)))) (by decide);rw[← hS];exact Nat.div_le_self _ _
  have HSTOP:=Lh hstop;have HSTEP:=Lh hstep;have HY0:=Lh hY0;clear hS hY hstep hstop hY0;go_wp2_with fail;refine(mm _ _ N gk _ (HS.out.below HB2.out) (by have:=HX.out;exact this) (by have:=HI.out.1;omega) (Nat.le_trans HF.out (by decide))).mono ?_;rintro e w3 ⟨⟨q,r,rfl,hq,-⟩,hb3⟩;rw[HSV.out] at hq;have HX3:=Lh (HX.out.below hb3);have Q03:=Lh (Q0.out.keep hb3);have Q13:=Lh (Q1.out.keep hb3);have HB3:=Lh (HB2.out.trans (hb3.mono HB2.out.size));obtain⟨A5,c5,rfl⟩:=hq.form;have HQ:=Lh hq;clear hq hb3 q0 q1 q2 ql HX Q0 Q1 HB2;go_wp2_with fail;refine(jB _ _ (dg gk) (dg S) _ HX3.out HQ.out (Nat.le_trans HI.out.2.2 (by decide)) HSL.out).mono ?_;rintro e w4 ⟨⟨s4,rfl,hs4⟩,hb4⟩;rw[aY,aY] at hs4;have HX4:=Lh (HX3.out.below hb4);have Q04:=Lh (Q03.out.keep hb4);have Q14:=Lh (Q13.out.keep hb4);have HB4:=Lh (HB3.out.trans (hb4.mono HB3.out.size));have HP:=Lh hs4;clear hs4 hb4 HX3 Q03 Q13 HB3 HQ;go_wp2_with fail;refine(AO _ _ 1 _ _ rfl HP.out HYL.out (by decide)).mono ?_;rintro e w5 ⟨⟨s5,rfl,hs5⟩,hb5⟩;rw[Nat.pow_one,HYV.out] at hs5;have HX5:=Lh (HX4.out.below hb5);have Q05:=Lh (Q04.out.keep hb5);have Q15:=Lh (Q14.out.keep hb5);have HB5:=Lh (HB4.out.trans (hb5.mono HB4.out.size));obtain⟨A6,c6,rfl⟩:=hs5.form;have HY:=Lh hs5;clear hs5 hb5 HX4 Q04 Q14 HB4 HP;go_wp2_with fail;refine(kC _ _ Y gk _ HY.out HX5.out).mono ?_;rintro e w6 ⟨rfl,hb6⟩;have HX6:=Lh (HX5.out.below hb6);have HY6:=Lh (HY.out.below hb6);have Q06:=Lh (Q05.out.keep hb6);have Q16:=Lh (Q15.out.keep hb6);have HB6:=Lh (HB5.out.trans (hb6.mono HB5.out.size));clear hb6 HX5 HY Q05 Q15 HB5;by_cases hge:gk≤Y
  ·have hc:=jm hge;have HRT:=Lh (HSTOP.out hge);clear hge;go_wp2_with fail;refine(eA false _ (dg gk) _ x2 (by show _=_;rw[aY,← HX2.out,HRT.out];rfl) HX6.out).mono ?_;rintro e w7 ⟨⟨v,rfl,hv⟩,hb7⟩;have Q17:=Lh (Q16.out.keep hb7);have HB7:=Lh (HB6.out.trans (hb7.mono HB6.out.size));have p0:w7.cell? ⟨w.heap.size+1,0,none⟩=some (.bool false):=Q17.out.cell (i:=0) rfl;have p1:w7.cell? ⟨w.heap.size+1,1,none⟩=some (.bool false):=Q17.out.cell (i:=1) rfl;have p2:w7.cell? ⟨w.heap.size+1,2,none⟩=some (.slice none 0 0):=Q17.out.cell (i:=2) rfl;have pf:=Q17.out.frozen;have pt:=Q17.out.fits 3 (by simp);have pl:=Q17.out.lt;obtain⟨A7,c7,rfl,hs7⟩:=hv.opened;have HS7:=Lh hs7;clear hs7 hv hb7;go_wp2_with fail;exact rT 3 #[.bool x2.ng,.bool x2.ov,.slice A7 (dg x2.sz).length c7] (.int .i64 0) ⟨⟨_,rfl,ap.mk (HS7.out.res (by go_simp) (by go_simp) (by go_simp) _ _ _)⟩,((HB7.out.setCell (Nat.le_succ _) _).setCell (Nat.le_succ _) _).setCell (Nat.le_succ _) _⟩
  ·have hc:=gG hge;have HLT:Hid (Y<gk):=by show Y<gk;omega
   clear hge;go_wp2_with fail;go_roundg Y
   case measure=>exact HLT.out
   case rel=>exact⟨A6,c6,rfl,HY6,⟨HY0.out,HSTEP.out,Nat.le_trans (bV (Nat.le_of_lt HLT.out)) HI.out.2.2⟩,HB6,Q06,Q16⟩
theorem tQ (a:Value) (x:WI) (w:World) (ha:ap w a x) :
  Calls Tryz.prog 83 #[a] w fun e w'=>(∃ v,e = .returned (.tuple #[v,.int .i64 x.sqrt.2])∧ap w' v x.sqrt.1)∧Below w.heap.size w w':=by
 by_cases h:x.ov=true∨x.ng=true∨x.sz=0
 ·exact rQ a x w ha h
 ·exact rP a x w ha (by simpa using fun h1=>h (.inl h1)) (by simpa using fun h1=>h (.inr (.inl h1))) (fun h1=>h (.inr (.inr h1)))
end Go.Proofs.YtnoidlacjiafdaaGreat
