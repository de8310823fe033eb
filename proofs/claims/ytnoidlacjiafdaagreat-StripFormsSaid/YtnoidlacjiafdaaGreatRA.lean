/- Digits of 32 bits: the plain law. No program in sight. The walk of the document's numbers: trim, bits, made. The walk of the document's sum of digits: plus. The walk of the document's difference of digits: minus. The order of digits: the plain law of cmp. The walk of the document's comparison of digits: cmp. The product of digits: the plain law of times. No program in sight. Shifted digits: the plain law of left, right. No program in sight. -/
import Derived.Test.YtnoidlacjiafdaaGreatBA
import Derived.Test.YtnoidlacjiafdaaGreatProg
import Derived.WalkKit
import Derived.BigQuiet
import Derived.BigRegion
import Derived.Deep.OwnRows
import Derived.OwnWalk
set_option maxRecDepth 100000
set_option maxHeartbeats 16000000
namespace Go.Proofs.YtnoidlacjiafdaaGreat
set_option linter.unusedSimpArgs false
set_option linter.unusedVariables false

def nv:List Nat→Nat
 | []=>0
 | d :: r=>d+4294967296*nv r
def dg (n:Nat):List Nat:=if h:n=0 then [] else n%4294967296 :: dg (n/4294967296)
termination_by n
decreasing_by omega
def Dig (l:List Nat):Prop:=∀ d ∈ l,d<4294967296
def dU:List Nat→List Nat
 | []=>[]
 | d :: r=>match dU r with
  | []=>if d=0 then [] else [d]
  | t=>d :: t
theorem bp:dg 0 = []:=by unfold dg;simp
theorem fj (n:Nat) (h:n≠0):dg n=n%4294967296 :: dg (n/4294967296):=by rw [dg];simp [h]
theorem fQ (n:Nat):Dig (dg n):=by
 induction n using Nat.strongRecOn with
 | _ n ih =>
  by_cases h:n=0
  ·subst h;rw[bp];intro d hd;cases hd
  ·rw[fj n h];intro d hd;rcases List.mem_cons.1 hd with rfl|hd
   ·exact Nat.mod_lt _ (by decide)
   ·exact ih (n/4294967296) (by omega) d hd
theorem aY (n:Nat):nv (dg n)=n:=by
 induction n using Nat.strongRecOn with
 | _ n ih =>
  by_cases h:n=0
  ·subst h;rw[bp];rfl
  ·rw[fj n h];unfold nv;rw[ih (n/4294967296) (by omega)];omega
theorem d6 (n:Nat):dg n = []↔n=0:=by
 constructor
 ·intro h;rw[← aY n,h];rfl
 ·rintro rfl;exact bp
theorem lL (l:List Nat) (h:Dig l):dU l=dg (nv l):=by
 induction l with
 | nil=>unfold dU nv;rw[bp]
 | cons d r ih =>
  have hd:d<4294967296:=h d List.mem_cons_self;have hr:=ih (fun x hx=>h x (List.mem_cons_of_mem _ hx));unfold dU nv;rw[hr];by_cases h0:nv r=0
  ·rw[h0,bp];simp only;by_cases hd0:d=0
   ·subst hd0;rw[if_pos rfl,Nat.mul_zero,bp]
   ·rw[if_neg hd0,Nat.mul_zero,Nat.add_zero,fj d hd0,Nat.mod_eq_of_lt hd,Nat.div_eq_of_lt hd,bp]
  ·have h1:dg (nv r) ≠ []:=fun e=>h0 ((d6 _).1 e);rw[fj (d+4294967296*nv r) (by omega),show(d+4294967296*nv r)%4294967296=d by omega,show(d+4294967296*nv r)/4294967296=nv r by omega];split
   ·rename_i e;exact absurd e h1
   ·rfl
theorem jW (l:List Nat):dU (l ++ [0])=dU l:=by
 induction l with
 | nil=>rfl
 | cons d r ih=>rw[List.cons_append];unfold dU;rw[ih]
theorem rO (l:List Nat) (d:Nat) (h:d≠0):dU (l ++ [d])=l ++ [d]:=by
 induction l with
 | nil=>show dU [d] = [d];unfold dU dU;simp[h]
 | cons e r ih =>
  rw[List.cons_append];unfold dU;rw[ih];cases r <;> rfl
theorem nP (l m:List Nat):nv (l++m)=nv l+4294967296^l.length*nv m:=by
 induction l with
 | nil=>simp[nv]
 | cons d r ih =>
  show d+4294967296*nv (r++m)=d+4294967296*nv r+4294967296^(r.length+1)*nv m;rw[ih,Nat.pow_succ];generalize nv m=a;generalize 4294967296^r.length=b;generalize nv r=c;grind
theorem mq (l:List Nat) (h:Dig l):nv l<4294967296^l.length:=by
 induction l with
 | nil=>decide
 | cons d r ih =>
  have h1:=ih (fun x hx=>h x (List.mem_cons_of_mem _ hx));have h2:d<4294967296:=h d List.mem_cons_self;unfold nv;rw[List.length_cons,Nat.pow_succ];have:4294967296*(nv r+1)≤4294967296^r.length*4294967296:=by rw[Nat.mul_comm];exact Nat.mul_le_mul_right _ h1
  omega
theorem yQ {l:List Nat} (h:Dig l) (n:Nat):Dig (l.take n):=fun d hd=>h d (List.mem_of_mem_take hd)
theorem vc (l:List Nat) (k:Nat) (h:k<l.length):l.take (k+1)=l.take k ++ [l[k]]:=by
 rw[List.take_succ_eq_append_getElem h]
theorem lK (l:List Nat) (h:dU l=l) (hl:l ≠ []):l.getLast hl≠0:=by
 intro h0;have e:l=l.dropLast ++ [0]:=by rw[← h0];exact(List.dropLast_concat_getLast hl).symm
 have h1:=jW l.dropLast;rw[← e] at h1
 have h2:∀ m:List Nat,(dU m).length≤m.length:=by
  intro m;induction m with
  | nil=>exact Nat.le_refl _
  | cons d r ih =>
   unfold dU;split
   ·split <;> simp
   ·rw[List.length_cons,List.length_cons];omega
 have h3:=h2 l.dropLast;rw[← h1,h,List.length_dropLast] at h3;have:0<l.length:=List.length_pos_iff.2 hl;omega
open Go.RowKit

def Rd (w:World) (s:Value) (xs:List Nat):Prop :=
 Dig xs∧((s = .slice none 0 0∧xs = [])∨∃ b o cap,s = .slice (some ⟨b,o,none⟩) xs.length cap∧xs.length≤cap∧xs.length≤1099511627776∧b<w.heap.size∧∀ (i:Nat) (h:i<xs.length),w.cell? ⟨b,o+i,none⟩=some (.int .u32 (xs[i]:Nat)))
theorem Rd.nil (w:World):Rd w (.slice none 0 0) []:=⟨fun _ h=>(by cases h),.inl ⟨rfl,rfl⟩⟩
theorem Rd.below {w w':World} {s:Value} {xs:List Nat} (h:Rd w s xs) (hb:Below w.heap.size w w'):Rd w' s xs:=by
 obtain⟨hd,h|⟨b,o,cap,hs,h1,h2,h3,h4⟩⟩:=h
 ·exact⟨hd,.inl h⟩
 ·exact⟨hd,.inr ⟨b,o,cap,hs,h1,h2,Nat.lt_of_lt_of_le h3 hb.size,fun i hi=>(hb.cell (p:=⟨b,_,none⟩) h3).trans (h4 i hi)⟩⟩
def yq:Value→Nat
 | .slice _ n _=>n
 | _=>0
theorem Rd.take {w:World} {b o cap:Nat} {xs:List Nat} (h:Rd w (.slice (some ⟨b,o,none⟩) xs.length cap) xs) (n:Nat) (hn:n≤xs.length):Rd w (.slice (some ⟨b,o,none⟩) n cap) (xs.take n):=by
 obtain⟨hd,⟨h0,-⟩|⟨b',o',cap',he,h1,h2,h3,h4⟩⟩:=h
 ·cases h0
 ·injection he with e1 e2 e3
  injection e1 with e1
  injection e1 with e4 e5
  subst e4;subst e5;subst e3;exact⟨yQ hd _,.inr ⟨b,o,cap,by rw[List.length_take,Nat.min_eq_left hn],by rw[List.length_take];omega,by rw[List.length_take];omega,h3,fun i hi=>by rw[List.getElem_take];exact h4 i (by rw[List.length_take] at hi;omega)⟩⟩
theorem ev (s:Value) (xs:List Nat) (w:World) (h:Rd w s xs) :
  Calls Tryz.prog 128 #[s] w fun e w'=>(∃ s',e = .returned s'∧∀ W,Rd W s xs→Rd W s' (dg (nv xs)))∧w'=w:=by
 obtain⟨hd,⟨rfl,rfl⟩|⟨b,o,cap,rfl,h1,h2,h3,h4⟩⟩:=h
 ·go_enter Tryz.func128,Tryz.ntmps128;go_wp2_with fail;refine wp_loop_rounds 1 ?_;rw[rounds_succ];go_wp2_with fail;go_ret;exact⟨⟨_,rfl,fun W _=>by rw[show nv []=0 from rfl,bp];exact Rd.nil W⟩,rfl⟩
 ·have H4:=Lh h4;have HT:=Lh (lL xs hd);have HD:=Lh hd;clear h4 hd;go_enter Tryz.func128,Tryz.ntmps128;go_wp2_with fail;go_loop [0] (fun t=>∃ n:Nat,n≤xs.length∧t = .slice (some ⟨b,o,none⟩) n cap∧Hid (dU (xs.take n)=dU xs)) (fun t=>yq t)
  case atStart=>exact⟨xs.length,Nat.le_refl _,rfl,by rw[List.take_length];exact rfl⟩
  case round =>
   obtain⟨n,hn,rfl,hx⟩:=hrel;rcases n with _|k
   ·go_wp2_with fail;go_ret;refine⟨⟨_,rfl,fun W hW=>?_⟩,rfl⟩;rw[← HT.out,← hx.out];exact hW.take 0 hn
   ·have k0:(0:Int)≤(k:Int):=by omega
    have k1:(0:Int)<((k+1:Nat):Int):=by omega
    have k2:wrap64 (((k+1:Nat):Int)-1)=(k:Int):=by unfold wrap64;omega
    have k3:(k:Int)<((k+1:Nat):Int):=by omega
    have k4:k≤cap:=by omega
    have hc:=H4.out k (by omega);have hsn:Hid (xs.take (k+1)=xs.take k ++ [xs[k]]):=vc xs k (by omega);by_cases h0:xs[k]=0
    ·rw[h0] at hc hsn;go_wp2_with fail;go_round
     case rel=>exact⟨k,by omega,rfl,by rw[← hx.out,hsn.out,jW];exact rfl⟩
     case measure=>simp[yq]
    ·have h0':((xs[k]:Nat):Int)≠0:=by omega
     go_wp2_with fail;go_ret;refine⟨⟨_,rfl,fun W hW=>?_⟩,rfl⟩;rw[← HT.out,← hx.out,hsn.out,rO _ _ h0,← hsn.out];exact hW.take (k+1) hn
theorem wN (l:List Nat) (d:Nat) (h:Dig l) (hd:d≠0):bl (nv (l ++ [d]))=32*l.length+bl d:=by
 have h1:=mq l h;have h2:=mU d;have h3:=d7 d hd;have hp:=iL d hd;have e:(4294967296:Nat)^l.length=2^(32*l.length):=by rw[Nat.pow_mul]
 rw[nP,show nv [d]=d by simp[nv],e];rw[e] at h1;refine iq _ _ ?_ (.inr ?_)
 ·rw[Nat.pow_add];have:2^(32*l.length)*(d+1)≤2^(32*l.length)*2^bl d:=Nat.mul_le_mul_left _ h2;rw[Nat.mul_add] at this;omega
 ·rw[show 32*l.length+bl d-1=32*l.length+(bl d-1) by omega,Nat.pow_add];have:2^(32*l.length)*2^(bl d-1)≤2^(32*l.length)*d:=Nat.mul_le_mul_left _ h3;omega
theorem BY (y:Nat) (h:y≠0):bl (y/2)+1=bl y:=by
 have h1:=mU y;have h2:=d7 y h;have h3:=iL y h;have e:bl y=(bl y-1)+1:=by omega
 have h4:bl (y/2)=bl y-1:=by
  refine iq _ _ ?_ ?_
  ·rw[e,Nat.pow_succ] at h1;omega
  ·by_cases h5:bl y-1=0
   ·exact .inl h5
   ·refine .inr ?_;rw[show bl y-1=(bl y-1-1)+1 by omega,Nat.pow_succ] at h2;omega
 omega
theorem zi (s:Value) (n:Nat) (w:World) (h:Rd w s (dg n)) :
  Calls Tryz.prog 46 #[s] w fun e w'=>e = .returned (.int .i64 (bl n))∧w'=w:=by
 by_cases hn:n=0
 ·subst hn;rw[bp] at h
  have hs:∃ A cap,s = .slice A 0 cap:=by
   obtain⟨-,⟨rfl,-⟩|⟨b,o,cap,rfl,-⟩⟩:=h
   ·exact⟨_,_,rfl⟩
   ·exact⟨_,_,rfl⟩
  obtain⟨A,cap,rfl⟩:=hs;go_enter Tryz.func46,Tryz.ntmps46;go_wp2_with fail;go_ret;exact⟨rfl,rfl⟩
 ·obtain⟨hd,⟨-,h0⟩|⟨b,o,cap,rfl,h1,h2,h3,h4⟩⟩:=h
  ·exact absurd ((d6 n).1 h0) hn
  ·have hne:dg n ≠ []:=fun e=>hn ((d6 n).1 e);have htr:dU (dg n)=dg n:=by rw[lL _ hd,aY]
   have hlast:=lK _ htr hne;obtain⟨l,d,hl⟩:∃ l d,dg n=l ++ [d]:=⟨_,_,(List.dropLast_concat_getLast hne).symm⟩
   have hd0:d≠0:=by
    have:(dg n).getLast hne=d:=by simp[hl]
    rw[← this];exact hlast
   have hdl:Dig l:=fun x hx=>hd x (by rw[hl];exact List.mem_append_left _ hx);have hdd:d<4294967296:=hd d (by rw[hl];simp);have hbl:=wN l d hdl hd0;rw[← hl,aY] at hbl;have hlen:(dg n).length=l.length+1:=by rw[hl];simp
   have hc:=h4 l.length (by omega);have hgd:(dg n)[l.length]'(by omega)=d:=by simp[hl]
   rw[hgd] at hc;rw[hlen] at h1;have HBL:=Lh hbl;have k1:¬ (((l.length+1:Nat):Int)=0):=by omega
   have k2:wrap64 (((l.length+1:Nat):Int)-1)=(l.length:Int):=by unfold wrap64;omega
   have k3:wrap64 (32*(l.length:Int))=32*(l.length:Int):=by unfold wrap64;omega
   have k4:(l.length:Int)<((l.length+1:Nat):Int):=by omega
   have k5:(0:Int)≤(l.length:Int):=by omega
   clear h4 hgd hbl hlast htr hd;rw[hlen];go_enter Tryz.func46,Tryz.ntmps46;go_wp2_with fail;go_loop [3,4] (fun t3 t4=>∃ k y:Nat,t3 = .int .i64 (32*(l.length:Int)+k)∧t4 = .int .u32 (y:Int)∧y<4294967296∧Hid (k+bl y=bl d)) (fun _ t4=>(intOf t4).toNat)
   case atStart=>exact⟨0,d,by simp,rfl,hdd,(by show 0+bl d=bl d;omega)⟩
   case round =>
    obtain⟨k,y,rfl,rfl,hy,hk⟩:=hrel;have hb32:Hid (bl d≤32):=(cE d 32).2 (by omega);by_cases h0:y=0
    ·subst h0;go_wp2_with fail;go_ret;have h1:=hk.out;rw[uO] at h1;exact⟨by rw[HBL.out,← h1];rfl,rfl⟩
    ·have y1:(0:Int)<(y:Int):=by omega
     have e3:wrap64 (32*(l.length:Int)+k+1)=32*(l.length:Int)+((k+1:Nat):Int):=by have:=hk.out;have:=hb32.out;unfold wrap64;omega
     go_wp2_with fail;go_round
     case rel=>exact⟨k+1,y/2,by first|rfl|simp only[e3],by first|rfl|simp,by omega,by have:=BY y h0;have:=hk.out;show _=_;omega⟩
     case measure=>simp[intOf];omega
def ap (w:World) (v:Value) (x:WI):Prop:=∃ s,v = .agg #[.bool x.ng,.bool x.ov,s]∧Rd w s (dg x.sz)
theorem ap.below {w w':World} {v:Value} {x:WI} (h:ap w v x) (hb:Below w.heap.size w w'):ap w' v x:=by
 obtain⟨s,hs,hr⟩:=h;exact⟨s,hs,hr.below hb⟩
theorem Rd.form {w:World} {s:Value} {xs:List Nat} (h:Rd w s xs):∃ A cap,s = .slice A xs.length cap:=by
 obtain⟨-,⟨rfl,rfl⟩|⟨b,o,cap,rfl,-⟩⟩:=h
 ·exact⟨_,_,rfl⟩
 ·exact⟨_,_,rfl⟩
theorem DH {n:Bool} {N:Nat} (h:1023<bl N):WI.of (sgn n N)=WI.over:=by
 refine WI.pq ?_;rw[dr,← iE];omega
theorem DE {n:Bool} {N:Nat} (h:bl N≤1023):(WI.of (sgn n N)).ng=(n&&decide (N≠0))∧(WI.of (sgn n N)).ov=false∧(WI.of (sgn n N)).sz=N:=by
 have hl:(sgn n N).natAbs<lim:=by rw[dr];exact(iE N).1 h
 unfold WI.ng WI.ov WI.sz;rw[WI.of_v hl];refine⟨?_,rfl,dr n N⟩;unfold sgn;cases n
 ·simp
 ·show decide (-(N:Int)<0)=(true&&decide (N≠0));rw[Bool.true_and,decide_eq_decide];omega
theorem pD (neg:Bool) (s:Value) (xs:List Nat) (w:World) (h:Rd w s xs) :
  Calls Tryz.prog 81 #[.bool neg,s] w fun e w'=>(∃ v,e = .returned v∧ap w' v (WI.of (sgn neg (nv xs))))∧Below w.heap.size w w':=by
 have HR:=Lh h;clear h;obtain⟨N,hN⟩:∃ N,N=nv xs:=⟨_,rfl⟩;rw[← hN];have HT:Hid (∀ W,Below w.heap.size w W→Calls Tryz.prog 128 #[s] W fun e w'=>(∃ s',e = .returned s'∧∀ W,Rd W s xs→Rd W s' (dg N))∧w'=W):=fun W hb=>by rw[hN];exact ev s xs W (HR.out.below hb)
 clear hN;go_enter Tryz.func81,Tryz.ntmps81;go_wp2_with fail;refine(HT.out _ ae).mono ?_;rintro e w1 ⟨⟨s',rfl,hs'⟩,rfl⟩;obtain⟨A,cap,rfl⟩:=(hs' w HR.out).form;have HS:=Lh (hs' w HR.out);clear hs';go_wp2_with fail;refine(zi _ N _ (HS.out.below ae)).mono ?_;rintro e w2 ⟨rfl,rfl⟩;by_cases hb:bl N≤1023
 ·obtain⟨g1,g2,g3⟩:=DE (n:=neg) hb;have hb':¬ (1023:Int)<(bl N:Int):=by omega
  have hlen:(dg N).length=0↔N=0:=by rw[List.length_eq_zero_iff,d6]
  cases neg
  ·go_wp2_with fail;refine ak 3 #[.bool false,.bool false,.slice A (dg N).length cap] rfl rfl rfl Tryz.underlying52 rfl (by kernel_rfl) rc3 ⟨⟨_,rfl,_,by rw[g1,g2];rfl,?_⟩,ae⟩;rw[g3];exact HS.out.below ae
  ·by_cases h0:N=0
   ·have h1:(dg N).length=0:=hlen.2 h0;have HS0:=HS.out;rw[h1] at HS0 ⊢;go_wp2_with fail;refine ak 3 #[.bool false,.bool false,.slice A 0 cap] rfl rfl rfl Tryz.underlying52 rfl (by kernel_rfl) rc3 ⟨⟨_,rfl,.slice A 0 cap,by rw[g1,g2];simp[h0],?_⟩,ae⟩;rw[g3];exact HS0.below ae
   ·have h1:0<(dg N).length:=by omega
    go_wp2_with fail;refine ak 3 #[.bool true,.bool false,.slice A (dg N).length cap] rfl rfl rfl Tryz.underlying52 rfl (by kernel_rfl) rc3 ⟨⟨_,rfl,.slice A (dg N).length cap,by rw[g1,g2];simp[h0],?_⟩,ae⟩;rw[g3];exact HS.out.below ae
 ·have hb':(1023:Int)<(bl N:Int):=by omega
  have ho:=DH (n:=neg) (N:=N) (by omega);go_wp2_with fail;refine ak 3 #[.bool false,.bool true,.slice none 0 0] rfl rfl rfl Tryz.underlying52 rfl (by kernel_rfl) rc3 ⟨⟨_,rfl,_,by rw[ho];rfl,?_⟩,ae⟩;rw[ho];show Rd _ _ (dg 0);rw[bp];exact Rd.nil _
open Go.RowKit

def nvf (f:Nat→Nat):Nat→Nat
 | 0=>0
 | k+1=>nvf f k+4294967296^k*f k
theorem et {f g:Nat→Nat} (k:Nat) (h:∀ i,i<k→f i=g i):nvf f k=nvf g k:=by
 induction k with
 | zero=>rfl
 | succ k ih=>unfold nvf;rw[ih (fun i hi=>h i (by omega)),h k (by omega)]
theorem vJ (f:Nat→Nat) (k:Nat):nvf f (k+1)=f 0+4294967296*nvf (fun i=>f (i+1)) k:=by
 induction k with
 | zero=>simp[nvf]
 | succ k ih =>
  show nvf f (k+1)+4294967296^(k+1)*f (k+1)=f 0+4294967296*(nvf (fun i=>f (i+1)) k+4294967296^k*f (k+1));rw[ih,Nat.pow_succ];generalize nvf (fun i=>f (i+1)) k=a;generalize 4294967296^k=b;grind
theorem st (l:List Nat):nv l=nvf (fun i=>l.getD i 0) l.length:=by
 induction l with
 | nil=>rfl
 | cons d r ih=>rw[List.length_cons,vJ];show d+4294967296*nv r=d+4294967296*_;rw[ih];rfl
theorem dM (l:List Nat) (k:Nat) (h:l.length≤k):nvf (fun i=>l.getD i 0) k=nv l:=by
 induction k with
 | zero=>rw[st,show l.length=0 by omega]
 | succ k ih =>
  by_cases hk:l.length=k+1
  ·rw[st,hk]
  ·unfold nvf;rw[ih (by omega)];have:l.getD k 0=0:=by simp[List.getD,List.getElem?_eq_none (by omega:l.length≤k)]
   simp only[this,Nat.mul_zero,Nat.add_zero]
theorem dN (f:Nat→Nat) (n:Nat):nv ((List.range n).map f)=nvf f n:=by
 rw[st,List.length_map,List.length_range];refine et n (fun i hi=>?_);simp[List.getD,hi]
def cy (f g:Nat→Nat):Nat→Nat
 | 0=>0
 | k+1=>(cy f g k+f k+g k)/4294967296
theorem uJ (f g:Nat→Nat) (hf:∀ i,f i<4294967296) (hg:∀ i,g i<4294967296) (k:Nat):cy f g k≤1:=by
 induction k with
 | zero=>exact Nat.zero_le _
 | succ k ih=>have:=hf k;have:=hg k;unfold cy;omega
theorem lO (f g:Nat→Nat) (k:Nat):nvf (fun i=>(cy f g i+f i+g i)%4294967296) k+4294967296^k*cy f g k=nvf f k+nvf g k:=by
 induction k with
 | zero=>simp[nvf,cy]
 | succ k ih =>
  have h:=Nat.div_add_mod (cy f g k+f k+g k) 4294967296;show nvf (fun i=>(cy f g i+f i+g i)%4294967296) k+4294967296^k*((cy f g k+f k+g k)%4294967296)+4294967296^(k+1)*((cy f g k+f k+g k)/4294967296)=nvf f k+4294967296^k*f k+(nvf g k+4294967296^k*g k);rw[Nat.pow_succ];generalize nvf (fun i=>(cy f g i+f i+g i)%4294967296) k=A at *;generalize nvf f k=Bf at *;generalize nvf g k=Bg at *;generalize 4294967296^k=P at *;generalize (cy f g k+f k+g k)/4294967296=q at *;generalize (cy f g k+f k+g k)%4294967296=r at *;generalize cy f g k=c at *;have e:P*r+P*4294967296*q=P*(c+f k+g k):=by rw[← h];grind
  have e2:P*(c+f k+g k)=P*c+P*f k+P*g k:=by grind
  omega
theorem eo:(Tryz.prog.info? 125).map (fun i=>(i.zero,i.size,i.bytes))=some (some (.int .u32 0),1,4):=by kernel_rfl
theorem Rd.row {w:World} {g n:Nat} {t:TypeId} {f:Nat→Nat} (h:w.rowIs g t n (fun i => .int .u32 (f i:Nat))) (hn:n≤1099511627776) (hf:∀ i,i<n→f i<4294967296):Rd w (.slice (some ⟨g,0,none⟩) n n) ((List.range n).map f):=by
 refine⟨fun d hd=>?_,.inr ⟨g,0,n,by simp,by simp,by simpa using hn,h.lt,fun i hi=>?_⟩⟩
 ·obtain⟨i,hi,rfl⟩:=List.mem_map.1 hd;exact hf i (List.mem_range.1 hi)
 ·have hi':i<n:=by simpa using hi
  rw[Nat.zero_add,h.cell hi'];simp
theorem Rd.at {w:World} {b o cap n:Nat} {xs:List Nat} (h:Rd w (.slice (some ⟨b,o,none⟩) n cap) xs) (i:Nat) (hi:i<xs.length):b<w.heap.size∧w.cell? ⟨b,o+i,none⟩=some (.int .u32 (xs.getD i 0:Nat))∧xs.getD i 0<4294967296:=by
 obtain⟨hd,⟨h0,-⟩|⟨b',o',cap',he,h1,h2,h3,h4⟩⟩:=h
 ·cases h0
 ·injection he with e1 e2 e3
  injection e1 with e1
  injection e1 with e4 e5
  subst e4;subst e5;have:xs.getD i 0=xs[i]:=by simp[List.getD,hi]
  rw[this];exact⟨h3,h4 i hi,hd _ (List.getElem_mem hi)⟩
theorem Rd.at' {w:World} {A:Option Addr} {cap n:Nat} {xs:List Nat} (h:Rd w (.slice A n cap) xs) (i:Nat) (hi:i<xs.length):∃ b o,A=some ⟨b,o,none⟩∧b<w.heap.size∧w.cell? ⟨b,o+i,none⟩=some (.int .u32 (xs.getD i 0:Nat))∧xs.getD i 0<4294967296:=by
 have h':=h;obtain⟨-,⟨h0,rfl⟩|⟨b',o',cap',he,-⟩⟩:=h
 ·cases hi
 ·injection he with e1 e2 e3
  subst e1;exact⟨b',o',rfl,h'.at i hi⟩
theorem bI {l:List Nat} (h:Dig l) (i:Nat):l.getD i 0<4294967296:=by
 by_cases hi:i<l.length
 ·have:l.getD i 0=l[i]:=by simp[List.getD,hi]
  rw[this];exact h _ (List.getElem_mem hi)
 ·have:l.getD i 0=0:=by simp[List.getD,List.getElem?_eq_none (by omega:l.length≤i)]
  rw[this];decide
theorem yY (a b c:Nat):(((a+b+c)%4294967296:Nat):Int)=((a:Int)+b+c)%4294967296:=by omega
theorem zg (a b c:Nat):(((a+b+c)/4294967296:Nat):Int)=((a:Int)+b+c)/4294967296:=by omega
theorem yZ (a b:Nat):(((a+b)/4294967296:Nat):Int)=((a:Int)+b)/4294967296:=by omega
theorem jB (s t:Value) (xs ys:List Nat) (w:World) (hs:Rd w s xs) (ht:Rd w t ys) (hx:xs.length≤1000000) (hy:ys.length≤1000000) :
  Calls Tryz.prog 103 #[s,t] w fun e w'=>(∃ s',e = .returned s'∧Rd w' s' (dg (nv xs+nv ys)))∧Below w.heap.size w w':=by
 obtain⟨i0,hi,hz0,hz1,hz2⟩:=info_parts eo;obtain⟨A,ca,rfl⟩:=hs.form;obtain⟨B,cb,rfl⟩:=ht.form;have HS:=Lh hs;have HT:=Lh ht;clear hs ht;by_cases hlen:xs.length<ys.length
 ·have hlen':(xs.length:Int)<(ys.length:Int):=by omega
  have hm:=run_make_row (P:=Tryz.prog) 50 125 i0 (.int .u32 0) Tryz.underlying50 hi hz0 hz1 rfl .i64 .i64 (ys.length+1) (by rw[hz2];omega) (by omega);push_cast at hm;have m1:wrap64 ((ys.length:Int)+1)=((ys.length+1:Nat):Int):=by unfold wrap64;omega
  go_enter Tryz.func103,Tryz.ntmps103;go_wp2_with fail;have hr0:=Lh (World.rowIs_made w (.int .u32 0) (ys.length+1) 125)
  go_loopw [6,21] (fun t6 t21 wr=>∃ k:Nat,k≤ys.length∧t21 = .int .i64 k∧t6 = .int .u64 (cy (fun i=>ys.getD i 0) (fun i=>xs.getD i 0) k:Nat) ∧
   wr.rowIs w.heap.size 125 (ys.length+1) (fun i => .int .u32 ((if i<k then (cy (fun i=>ys.getD i 0) (fun i=>xs.getD i 0) i+ys.getD i 0+xs.getD i 0)%4294967296 else 0:Nat):Int))∧Below w.heap.size w wr) (fun _ t21 _=>ys.length-(intOf t21).toNat)
  case atStart=>exact⟨0,Nat.zero_le _,rfl,rfl,hr0.out.congr (fun i _=>by simp),ae⟩
  case round =>
   obtain⟨k,hk,rfl,rfl,hrow,hbr⟩:=hrel;by_cases hlt:k<ys.length
   ·obtain⟨ba,oa,rfl,hba,cA,uA⟩:=HT.out.at' k hlt;have cA':=(hbr.cell (p:=⟨ba,oa+k,none⟩) hba).trans cA;have hc1:=uJ (fun i=>ys.getD i 0) (fun i=>xs.getD i 0) (bI HT.out.1) (bI HS.out.1) k;have hcs:Hid (cy (fun i=>ys.getD i 0) (fun i=>xs.getD i 0) (k+1)=(cy (fun i=>ys.getD i 0) (fun i=>xs.getD i 0) k+ys.getD k 0+xs.getD k 0)/4294967296):=rfl;have hck:=hrow.cell (show k<ys.length+1 by omega);have hfk:=hrow.frozen;have HRW:=Lh hrow;have HBR:=Lh hbr;have k0:(0:Int)≤(k:Int):=by omega
    have k1:(k:Int)<(ys.length:Int):=by omega
    have k2:(k:Int)<(ys.length:Int)+1:=by omega
    have k3:wrap64 ((k:Int)+1)=((k+1:Nat):Int):=by unfold wrap64;omega
    have nb:¬ ba=w.heap.size:=by omega
    obtain⟨C,hC⟩:∃ C,C=cy (fun i=>ys.getD i 0) (fun i=>xs.getD i 0) k:=⟨_,rfl⟩;obtain⟨u,hu⟩:∃ u,u=ys.getD k 0:=⟨_,rfl⟩;obtain⟨v,hv⟩:∃ v,v=xs.getD k 0:=⟨_,rfl⟩;have hbs:=HBR.out.size;simp only[← hC,← hu,← hv] at cA' hc1 uA hcs hck ⊢;have HC:=Lh hC;have HU:=Lh hu;have HVV:=Lh hv;have vlt:v<4294967296:=by rw[hv];exact bI HS.out.1 k
    clear cA hrow hbr hm hC hu;have f1:IntKind.u64.wrap (u:Int)=u:=by rw[IntKind.wrap_u64];omega
    have f2:IntKind.u64.wrap (v:Int)=v:=by rw[IntKind.wrap_u64];omega
    have f3:IntKind.u64.wrap ((C:Int)+u)=(C:Int)+u:=by rw[IntKind.wrap_u64];omega
    have f4:IntKind.u64.wrap ((C:Int)+u+v)=(C:Int)+u+v:=by rw[IntKind.wrap_u64];omega
    have hend:Hid (∀ W,W=wr.setCell ⟨w.heap.size,k,none⟩ (.int .u32 (((C:Int)+u+v)%4294967296))→W.rowIs w.heap.size 125 (ys.length+1) (fun i => .int .u32 ((if i<k+1 then (cy (fun i=>ys.getD i 0) (fun i=>xs.getD i 0) i+ys.getD i 0+xs.getD i 0)%4294967296 else 0:Nat):Int))∧Below w.heap.size w W):=by
     rintro W rfl;refine⟨(HRW.out.set k _).congr (fun i _=>?_),HBR.out.setCell (Nat.le_refl _) _⟩;by_cases e:i=k
     ·subst e;rw[if_pos rfl,if_pos (Nat.lt_succ_self _),← HC.out,← HU.out,← HVV.out,yY]
     ·rw[if_neg e];by_cases e2:i<k
      ·rw[if_pos e2,if_pos (by omega)]
      ·rw[if_neg e2,if_neg (by omega)]
    by_cases hkb:k<xs.length
    ·obtain⟨bb,ob,rfl,hbb,cB,uB⟩:=HS.out.at' k hkb;have cB':=(HBR.out.cell (p:=⟨bb,ob+k,none⟩) hbb).trans cB;have nb2:¬ bb=w.heap.size:=by omega
     rw[← hv] at cB' uB;clear cB hv;have k4:(k:Int)<(xs.length:Int):=by omega
     go_wp2_with fail;refine⟨⟨k+1,by omega,by first|rfl|go_num,?_,(hend.out _ rfl).1,(hend.out _ rfl).2⟩,by simp[intOf];omega⟩;rw[hcs.out,zg]
    ·have v0:v=0:=by rw[hv];simp[List.getD,List.getElem?_eq_none (by omega:xs.length≤k)]
     have k4:¬ (k:Int)<(xs.length:Int):=by omega
     clear hv HVV f2 f4;subst v0;simp only[Int.natCast_zero,Int.add_zero,Nat.add_zero] at hend hcs;go_wp2_with fail;refine⟨⟨k+1,by omega,by first|rfl|go_num,?_,(hend.out _ rfl).1,(hend.out _ rfl).2⟩,by simp[intOf];omega⟩;rw[hcs.out,yZ]
   ·obtain rfl:k=ys.length:=by omega
    have hc1:=uJ (fun i=>ys.getD i 0) (fun i=>xs.getD i 0) (bI HT.out.1) (bI HS.out.1) ys.length;have hck:=hrow.cell (show ys.length<ys.length+1 by omega);have hfk:=hrow.frozen;have HRW:=Lh hrow;have HBR:=Lh hbr;obtain⟨C,hC⟩:∃ C,C=cy (fun i=>ys.getD i 0) (fun i=>xs.getD i 0) ys.length:=⟨_,rfl⟩;simp only[← hC] at hc1 ⊢;have HC:=Lh hC;clear hrow hbr hm hC;have k0:(0:Int)≤(ys.length:Int):=by omega
    have k1:¬ (ys.length:Int)<(ys.length:Int):=by omega
    have k2:(ys.length:Int)<(ys.length:Int)+1:=by omega
    have hrow2:(wr.setCell ⟨w.heap.size,ys.length,none⟩ (.int .u32 (C:Int))).rowIs w.heap.size 125 (ys.length+1) (fun i => .int .u32 ((if i<ys.length then (cy (fun i=>ys.getD i 0) (fun i=>xs.getD i 0) i+ys.getD i 0+xs.getD i 0)%4294967296 else C:Nat):Int)):=by
     refine(HRW.out.set ys.length _).congr (fun i hi=>?_);by_cases e:i=ys.length
     ·subst e;rw[if_pos rfl,if_neg (Nat.lt_irrefl _)]
     ·rw[if_neg e,if_pos (by omega),if_pos (by omega)]
    have hrd:=Lh (Rd.row hrow2 (by omega) (fun i hi=>by split;exact Nat.mod_lt _ (by decide);omega))
    have hval:Hid (nv ((List.range (ys.length+1)).map (fun i=>if i<ys.length then (cy (fun i=>ys.getD i 0) (fun i=>xs.getD i 0) i+ys.getD i 0+xs.getD i 0)%4294967296 else C))=nv xs+nv ys):=by
     show _=_;rw[dN];show nvf _ ys.length+4294967296^ys.length*(if ys.length<ys.length then _ else C)=_;rw[if_neg (Nat.lt_irrefl _),et (g:=fun i=>(cy (fun i=>ys.getD i 0) (fun i=>xs.getD i 0) i+ys.getD i 0+xs.getD i 0)%4294967296) ys.length (fun i hi=>if_pos hi),HC.out,lO,dM ys _ (Nat.le_refl _),dM xs _ (by omega)];omega
    have hbs:=HBR.out.size;clear hrow2;go_wp2_with fail;refine(ev _ _ _ hrd.out).mono ?_;rintro e w1 ⟨⟨s',rfl,hs'⟩,rfl⟩;have hs2:=Lh (hs' _ hrd.out);clear hs';go_wp2_with fail;go_ret;exact⟨⟨_,rfl,by have:=hs2.out;rwa [hval.out] at this⟩,HBR.out.setCell (Nat.le_refl _) _⟩
 ·have hlen':¬ (xs.length:Int)<(ys.length:Int):=by omega
  have hm:=run_make_row (P:=Tryz.prog) 50 125 i0 (.int .u32 0) Tryz.underlying50 hi hz0 hz1 rfl .i64 .i64 (xs.length+1) (by rw[hz2];omega) (by omega);push_cast at hm;have m1:wrap64 ((xs.length:Int)+1)=((xs.length+1:Nat):Int):=by unfold wrap64;omega
  go_enter Tryz.func103,Tryz.ntmps103;go_wp2_with fail;have hr0:=Lh (World.rowIs_made w (.int .u32 0) (xs.length+1) 125)
  go_loopw [6,21] (fun t6 t21 wr=>∃ k:Nat,k≤xs.length∧t21 = .int .i64 k∧t6 = .int .u64 (cy (fun i=>xs.getD i 0) (fun i=>ys.getD i 0) k:Nat) ∧
   wr.rowIs w.heap.size 125 (xs.length+1) (fun i => .int .u32 ((if i<k then (cy (fun i=>xs.getD i 0) (fun i=>ys.getD i 0) i+xs.getD i 0+ys.getD i 0)%4294967296 else 0:Nat):Int))∧Below w.heap.size w wr) (fun _ t21 _=>xs.length-(intOf t21).toNat)
  case atStart=>exact⟨0,Nat.zero_le _,rfl,rfl,hr0.out.congr (fun i _=>by simp),ae⟩
  case round =>
   obtain⟨k,hk,rfl,rfl,hrow,hbr⟩:=hrel;by_cases hlt:k<xs.length
   ·obtain⟨ba,oa,rfl,hba,cA,uA⟩:=HS.out.at' k hlt;have cA':=(hbr.cell (p:=⟨ba,oa+k,none⟩) hba).trans cA;have hc1:=uJ (fun i=>xs.getD i 0) (fun i=>ys.getD i 0) (bI HS.out.1) (bI HT.out.1) k;have hcs:Hid (cy (fun i=>xs.getD i 0) (fun i=>ys.getD i 0) (k+1)=(cy (fun i=>xs.getD i 0) (fun i=>ys.getD i 0) k+xs.getD k 0+ys.getD k 0)/4294967296):=rfl;have hck:=hrow.cell (show k<xs.length+1 by omega);have hfk:=hrow.frozen;have HRW:=Lh hrow;have HBR:=Lh hbr;have k0:(0:Int)≤(k:Int):=by omega
    have k1:(k:Int)<(xs.length:Int):=by omega
    have k2:(k:Int)<(xs.length:Int)+1:=by omega
    have k3:wrap64 ((k:Int)+1)=((k+1:Nat):Int):=by unfold wrap64;omega
    have nb:¬ ba=w.heap.size:=by omega
    obtain⟨C,hC⟩:∃ C,C=cy (fun i=>xs.getD i 0) (fun i=>ys.getD i 0) k:=⟨_,rfl⟩;obtain⟨u,hu⟩:∃ u,u=xs.getD k 0:=⟨_,rfl⟩;obtain⟨v,hv⟩:∃ v,v=ys.getD k 0:=⟨_,rfl⟩;have hbs:=HBR.out.size;simp only[← hC,← hu,← hv] at cA' hc1 uA hcs hck ⊢;have HC:=Lh hC;have HU:=Lh hu;have HVV:=Lh hv;have vlt:v<4294967296:=by rw[hv];exact bI HT.out.1 k
    clear cA hrow hbr hm hC hu;have f1:IntKind.u64.wrap (u:Int)=u:=by rw[IntKind.wrap_u64];omega
    have f2:IntKind.u64.wrap (v:Int)=v:=by rw[IntKind.wrap_u64];omega
    have f3:IntKind.u64.wrap ((C:Int)+u)=(C:Int)+u:=by rw[IntKind.wrap_u64];omega
    have f4:IntKind.u64.wrap ((C:Int)+u+v)=(C:Int)+u+v:=by rw[IntKind.wrap_u64];omega
    have hend:Hid (∀ W,W=wr.setCell ⟨w.heap.size,k,none⟩ (.int .u32 (((C:Int)+u+v)%4294967296))→W.rowIs w.heap.size 125 (xs.length+1) (fun i => .int .u32 ((if i<k+1 then (cy (fun i=>xs.getD i 0) (fun i=>ys.getD i 0) i+xs.getD i 0+ys.getD i 0)%4294967296 else 0:Nat):Int))∧Below w.heap.size w W):=by
     rintro W rfl;refine⟨(HRW.out.set k _).congr (fun i _=>?_),HBR.out.setCell (Nat.le_refl _) _⟩;by_cases e:i=k
     ·subst e;rw[if_pos rfl,if_pos (Nat.lt_succ_self _),← HC.out,← HU.out,← HVV.out,yY]
     ·rw[if_neg e];by_cases e2:i<k
      ·rw[if_pos e2,if_pos (by omega)]
      ·rw[if_neg e2,if_neg (by omega)]
    by_cases hkb:k<ys.length
    ·obtain⟨bb,ob,rfl,hbb,cB,uB⟩:=HT.out.at' k hkb;have cB':=(HBR.out.cell (p:=⟨bb,ob+k,none⟩) hbb).trans cB;have nb2:¬ bb=w.heap.size:=by omega
     rw[← hv] at cB' uB;clear cB hv;have k4:(k:Int)<(ys.length:Int):=by omega
     go_wp2_with fail;refine⟨⟨k+1,by omega,by first|rfl|go_num,?_,(hend.out _ rfl).1,(hend.out _ rfl).2⟩,by simp[intOf];omega⟩;rw[hcs.out,zg]
    ·have v0:v=0:=by rw[hv];simp[List.getD,List.getElem?_eq_none (by omega:ys.length≤k)]
     have k4:¬ (k:Int)<(ys.length:Int):=by omega
     clear hv HVV f2 f4;subst v0;simp only[Int.natCast_zero,Int.add_zero,Nat.add_zero] at hend hcs;go_wp2_with fail;refine⟨⟨k+1,by omega,by first|rfl|go_num,?_,(hend.out _ rfl).1,(hend.out _ rfl).2⟩,by simp[intOf];omega⟩;rw[hcs.out,yZ]
   ·obtain rfl:k=xs.length:=by omega
    have hc1:=uJ (fun i=>xs.getD i 0) (fun i=>ys.getD i 0) (bI HS.out.1) (bI HT.out.1) xs.length;have hck:=hrow.cell (show xs.length<xs.length+1 by omega);have hfk:=hrow.frozen;have HRW:=Lh hrow;have HBR:=Lh hbr;obtain⟨C,hC⟩:∃ C,C=cy (fun i=>xs.getD i 0) (fun i=>ys.getD i 0) xs.length:=⟨_,rfl⟩;simp only[← hC] at hc1 ⊢;have HC:=Lh hC;clear hrow hbr hm hC;have k0:(0:Int)≤(xs.length:Int):=by omega
    have k1:¬ (xs.length:Int)<(xs.length:Int):=by omega
    have k2:(xs.length:Int)<(xs.length:Int)+1:=by omega
    have hrow2:(wr.setCell ⟨w.heap.size,xs.length,none⟩ (.int .u32 (C:Int))).rowIs w.heap.size 125 (xs.length+1) (fun i => .int .u32 ((if i<xs.length then (cy (fun i=>xs.getD i 0) (fun i=>ys.getD i 0) i+xs.getD i 0+ys.getD i 0)%4294967296 else C:Nat):Int)):=by
     refine(HRW.out.set xs.length _).congr (fun i hi=>?_);by_cases e:i=xs.length
     ·subst e;rw[if_pos rfl,if_neg (Nat.lt_irrefl _)]
     ·rw[if_neg e,if_pos (by omega),if_pos (by omega)]
    have hrd:=Lh (Rd.row hrow2 (by omega) (fun i hi=>by split;exact Nat.mod_lt _ (by decide);omega))
    have hval:Hid (nv ((List.range (xs.length+1)).map (fun i=>if i<xs.length then (cy (fun i=>xs.getD i 0) (fun i=>ys.getD i 0) i+xs.getD i 0+ys.getD i 0)%4294967296 else C))=nv xs+nv ys):=by
     show _=_;rw[dN];show nvf _ xs.length+4294967296^xs.length*(if xs.length<xs.length then _ else C)=_;rw[if_neg (Nat.lt_irrefl _),et (g:=fun i=>(cy (fun i=>xs.getD i 0) (fun i=>ys.getD i 0) i+xs.getD i 0+ys.getD i 0)%4294967296) xs.length (fun i hi=>if_pos hi),HC.out,lO,dM xs _ (Nat.le_refl _),dM ys _ (by omega)]

    have hbs:=HBR.out.size;clear hrow2;go_wp2_with fail;refine(ev _ _ _ hrd.out).mono ?_;rintro e w1 ⟨⟨s',rfl,hs'⟩,rfl⟩;have hs2:=Lh (hs' _ hrd.out);clear hs';go_wp2_with fail;go_ret;exact⟨⟨_,rfl,by have:=hs2.out;rwa [hval.out] at this⟩,HBR.out.setCell (Nat.le_refl _) _⟩
open Go.RowKit

def bo (f g:Nat→Nat):Nat→Int
 | 0=>0
 | k+1=>(bo f g k+f k-g k)/4294967296
theorem CV (f g:Nat→Nat) (hf:∀ i,f i<4294967296) (hg:∀ i,g i<4294967296) (k:Nat) : -1≤bo f g k∧bo f g k≤0:=by
 induction k with
 | zero=>exact⟨by show(-1:Int)≤0;decide,Int.le_refl _⟩
 | succ k ih=>have:=hf k;have:=hg k;unfold bo;omega
def bd (f g:Nat→Nat) (i:Nat):Nat:=((bo f g i+f i-g i)%4294967296).toNat
theorem uP (f g:Nat→Nat) (i:Nat):((bd f g i:Nat):Int)=(bo f g i+f i-g i)%4294967296:=by unfold bd;omega
theorem CW (f g:Nat→Nat) (i:Nat):bd f g i<4294967296:=by unfold bd;omega
theorem pz (f:Nat→Nat) (k:Nat):(nvf f (k+1):Int)=(nvf f k:Int)+4294967296^k*(f k:Int):=by
 show((nvf f k+4294967296^k*f k:Nat):Int)=_;rw[Int.natCast_add,Int.natCast_mul,Int.natCast_pow];rfl
theorem rq (f g:Nat→Nat) (k:Nat):(nvf (bd f g) k:Int)+4294967296^k*bo f g k=(nvf f k:Int)-(nvf g k:Int):=by
 induction k with
 | zero=>simp[nvf,bo]
 | succ k ih =>
  have h:=Int.mul_ediv_add_emod (bo f g k+f k-g k) 4294967296;have h2:=uP f g k;have e0:(nvf (bd f g) (k+1):Int)=(nvf (bd f g) k:Int)+4294967296^k*(bd f g k:Int):=pz _ _;have e1:(nvf f (k+1):Int)=(nvf f k:Int)+4294967296^k*(f k:Int):=pz _ _;have e2:(nvf g (k+1):Int)=(nvf g k:Int)+4294967296^k*(g k:Int):=pz _ _;have e3:bo f g (k+1)=(bo f g k+f k-g k)/4294967296:=rfl;rw[e0,e1,e2,e3,h2,Int.pow_succ];generalize (nvf (bd f g) k:Int)=A at *;generalize (nvf f k:Int)=Bf at *;generalize (nvf g k:Int)=Bg at *;generalize (4294967296:Int)^k=P at *;generalize (bo f g k+f k-g k)/4294967296=q at *;generalize (bo f g k+f k-g k)%4294967296=r at *;generalize bo f g k=c at *;generalize (f k:Int)=x at *;generalize (g k:Int)=y at *;have e:P*r+P*4294967296*q=P*(c+x-y):=by rw[← h];grind
  have e4:P*(c+x-y)=P*c+P*x-P*y:=by grind
  omega
theorem jD (f:Nat→Nat) (hf:∀ i,f i<4294967296) (k:Nat):nvf f k<4294967296^k:=by
 induction k with
 | zero=>show 0<1;decide
 | succ k ih =>
  show nvf f k+4294967296^k*f k<4294967296^(k+1);rw[Nat.pow_succ];have:4294967296^k*(f k+1)≤4294967296^k*4294967296:=Nat.mul_le_mul_left _ (hf k);rw[Nat.mul_add] at this;omega
theorem yS (f g:Nat→Nat) (hf:∀ i,f i<4294967296) (hg:∀ i,g i<4294967296) (n:Nat) (h:nvf g n≤nvf f n):nvf (bd f g) n=nvf f n-nvf g n:=by
 have h1:=rq f g n;have h2:=CV f g hf hg n;have h3:=jD (bd f g) (CW f g) n;have h4:((4294967296^n:Nat):Int)=(4294967296:Int)^n:=Int.natCast_pow _ _
 have h5:bo f g n=0:=by
  rcases(by omega:bo f g n=0∨bo f g n = -1) with h|h
  ·exact h
  ·rw[h,← h4,Int.mul_neg,Int.mul_one] at h1;omega
 rw[h5,Int.mul_zero] at h1;omega
theorem kZ (s t:Value) (xs ys:List Nat) (w:World) (hs:Rd w s xs) (ht:Rd w t ys) (hx:xs.length≤1000000) (hyx:ys.length≤xs.length) (hle:nv ys≤nv xs) :
  Calls Tryz.prog 105 #[s,t] w fun e w'=>(∃ s',e = .returned s'∧Rd w' s' (dg (nv xs-nv ys)))∧Below w.heap.size w w':=by
 obtain⟨i0,hi,hz0,hz1,hz2⟩:=info_parts eo;obtain⟨A,ca,rfl⟩:=hs.form;obtain⟨B,cb,rfl⟩:=ht.form;have HS:=Lh hs;have HT:=Lh ht;clear hs ht;obtain⟨f,hf⟩:∃ f:Nat→Nat,f=fun i=>xs.getD i 0:=⟨_,rfl⟩;obtain⟨g,hg⟩:∃ f:Nat→Nat,f=fun i=>ys.getD i 0:=⟨_,rfl⟩;have flt:Hid (∀ i,f i<4294967296):=by rw[hf];exact bI HS.out.1
 have glt:Hid (∀ i,g i<4294967296):=by rw[hg];exact bI HT.out.1
 have hval:Hid (nvf (bd f g) xs.length=nv xs-nv ys):=by
  have e1:nvf f xs.length=nv xs:=by rw[hf];exact dM xs _ (Nat.le_refl _)
  have e2:nvf g xs.length=nv ys:=by rw[hg];exact dM ys _ hyx
  have:=yS f g flt.out glt.out xs.length (by rw[e1,e2];exact hle);rw[e1,e2] at this;exact this
 have hf':Hid (∀ i,xs.getD i 0=f i):=fun i=>by rw[hf]
 have hg':Hid (∀ i,ys.getD i 0=g i):=fun i=>by rw[hg]
 clear hf hg hle;have hm:=run_make_row (P:=Tryz.prog) 50 125 i0 (.int .u32 0) Tryz.underlying50 hi hz0 hz1 rfl .i64 .i64 xs.length (by rw[hz2];omega) (by omega);go_enter Tryz.func105,Tryz.ntmps105;go_wp2_with fail;have hr0:=Lh (World.rowIs_made w (.int .u32 0) xs.length 125)
 go_loopw [6,13] (fun t6 t13 wr=>∃ k:Nat,k≤xs.length∧t13 = .int .i64 k∧t6 = .int .i64 (bo f g k) ∧
  wr.rowIs w.heap.size 125 xs.length (fun i => .int .u32 ((if i<k then bd f g i else 0:Nat):Int))∧Below w.heap.size w wr) (fun _ t13 _=>xs.length-(intOf t13).toNat)
 case atStart=>exact⟨0,Nat.zero_le _,rfl,rfl,hr0.out.congr (fun i _=>by simp),ae⟩
 case round =>
  obtain⟨k,hk,rfl,rfl,hrow,hbr⟩:=hrel;by_cases hlt:k<xs.length
  ·obtain⟨ba,oa,rfl,hba,cA,uA⟩:=HS.out.at' k hlt;have cA':=(hbr.cell (p:=⟨ba,oa+k,none⟩) hba).trans cA;rw[hf'.out] at cA' uA;have hc1:=CV f g flt.out glt.out k;have hcs:Hid (bo f g (k+1)=(bo f g k+f k-g k)/4294967296):=rfl;have hdc:=Lh (uP f g k);have hck:=hrow.cell hlt;have hfk:=hrow.frozen;have HRW:=Lh hrow;have HBR:=Lh hbr;have hbs:=HBR.out.size;have vlt:=glt.out k;have k0:(0:Int)≤(k:Int):=by omega
   have k1:(k:Int)<(xs.length:Int):=by omega
   have k3:wrap64 ((k:Int)+1)=((k+1:Nat):Int):=by unfold wrap64;omega
   have nb:¬ ba=w.heap.size:=by omega
   obtain⟨C,hC⟩:∃ C,C=bo f g k:=⟨_,rfl⟩;obtain⟨u,hu⟩:∃ u,u=f k:=⟨_,rfl⟩;obtain⟨v,hv⟩:∃ v,v=g k:=⟨_,rfl⟩;simp only[← hC,← hu,← hv] at cA' hc1 uA hcs hck hdc vlt ⊢;clear cA hrow hbr hm hC hu;obtain⟨q1,q2⟩:=hc1
   have hend:Hid (∀ W,W=wr.setCell ⟨w.heap.size,k,none⟩ (.int .u32 ((C+u-v)%4294967296))→W.rowIs w.heap.size 125 xs.length (fun i => .int .u32 ((if i<k+1 then bd f g i else 0:Nat):Int))∧Below w.heap.size w W):=by
    rintro W rfl;refine⟨(HRW.out.set k _).congr (fun i _=>?_),HBR.out.setCell (Nat.le_refl _) _⟩;by_cases e:i=k
    ·subst e;rw[if_pos rfl,if_pos (Nat.lt_succ_self _),hdc.out]
    ·rw[if_neg e];by_cases e2:i<k
     ·rw[if_pos e2,if_pos (by omega)]
     ·rw[if_neg e2,if_neg (by omega)]
   by_cases hkb:k<ys.length
   ·obtain⟨bb,ob,rfl,hbb,cB,uB⟩:=HT.out.at' k hkb;have cB':=(HBR.out.cell (p:=⟨bb,ob+k,none⟩) hbb).trans cB;have nb2:¬ bb=w.heap.size:=by omega
    rw[hg'.out,← hv] at cB';clear cB uB hv;have k4:(k:Int)<(ys.length:Int):=by omega
    go_wp2_with fail;refine⟨⟨k+1,by omega,by first|rfl|go_num,by rw[hcs.out],(hend.out _ rfl).1,(hend.out _ rfl).2⟩,by simp[intOf];omega⟩
   ·have v0:v=0:=by rw[hv,← hg'.out];simp[List.getD,List.getElem?_eq_none (by omega:ys.length≤k)]
    have k4:¬ (k:Int)<(ys.length:Int):=by omega
    clear hv;subst v0;simp only[Int.natCast_zero,Int.sub_zero] at hend hcs;go_wp2_with fail;refine⟨⟨k+1,by omega,by first|rfl|go_num,by rw[hcs.out],(hend.out _ rfl).1,(hend.out _ rfl).2⟩,by simp[intOf];omega⟩
  ·obtain rfl:k=xs.length:=by omega
   have HRW:=Lh hrow;have HBR:=Lh hbr;clear hrow hbr hm;have k1:¬ (xs.length:Int)<(xs.length:Int):=by omega
   have hbs:=HBR.out.size;have hrow2:=HRW.out.congr (g:=fun i => .int .u32 ((bd f g i:Nat):Int)) (fun i hi=>by rw[if_pos hi]);have hrd:=Lh (Rd.row hrow2 (by omega) (fun i hi=>CW f g i));clear hrow2;go_wp2_with fail;refine(ev _ _ _ hrd.out).mono ?_;rintro e w1 ⟨⟨s',rfl,hs'⟩,rfl⟩;have hs2:=Lh (hs' _ hrd.out);clear hs';go_wp2_with fail;go_ret;exact⟨⟨_,rfl,by have:=hs2.out;rwa [dN,hval.out] at this⟩,HBR.out⟩
open Go.RowKit

theorem qE (f g:Nat→Nat) (hf:∀ i,f i<4294967296) (_hg:∀ i,g i<4294967296) (k m:Nat) (h:f k<g k) (he:∀ i,k<i→f i=g i):nvf f (k+1+m)<nvf g (k+1+m):=by
 induction m with
 | zero =>
  show nvf f k+4294967296^k*f k<nvf g k+4294967296^k*g k;have h1:=jD f hf k;have h2:4294967296^k*(f k+1)≤4294967296^k*g k:=Nat.mul_le_mul_left _ h;rw[Nat.mul_add] at h2;omega
 | succ m ih =>
  show nvf f (k+1+m)+4294967296^(k+1+m)*f (k+1+m)<nvf g (k+1+m)+4294967296^(k+1+m)*g (k+1+m);rw[he (k+1+m) (by omega)];exact Nat.add_lt_add_right ih _
theorem jO (N M:Nat) (h:(dg N).length<(dg M).length):N<M:=by
 have h1:=mq (dg N) (fQ N);rw[aY] at h1;have hne:dg M ≠ []:=fun e=>by rw[e] at h;exact absurd h (Nat.not_lt_zero _)
 have hl:=lK (dg M) (by rw[lL _ (fQ M),aY]) hne;have e:=(List.dropLast_concat_getLast hne).symm;have h2:=aY M;rw[e,nP,List.length_dropLast] at h2;have h3:nv [(dg M).getLast hne]=(dg M).getLast hne:=by simp[nv]
 rw[h3] at h2;have h4:4294967296^((dg M).length-1)*1≤4294967296^((dg M).length-1)*(dg M).getLast hne:=Nat.mul_le_mul_left _ (Nat.pos_of_ne_zero hl);have h5:(4294967296:Nat)^(dg N).length≤4294967296^((dg M).length-1):=Nat.pow_le_pow_right (by decide) (by omega);rw[Nat.mul_one] at h4;omega
open Go.RowKit

def cmpD (N M:Nat):Int:=if N<M then -1 else if M<N then 1 else 0
theorem ln {N M:Nat} (h:N<M):cmpD N M = -1:=if_pos h
theorem pL {N M:Nat} (h:M<N):cmpD N M=1:=by unfold cmpD;rw [if_neg (by omega),if_pos h]
theorem uL (N:Nat):cmpD N N=0:=by unfold cmpD;rw [if_neg (by omega),if_neg (by omega)]
theorem pA (N n:Nat) (h:(dg N).length≤n):nvf (fun i=>(dg N).getD i 0) n=N:=by rw [dM _ _ h,aY]
theorem pI (l:List Nat) (i:Nat) (h:l.length≤i):l.getD i 0=0:=by simp [List.getD,List.getElem?_eq_none h]
theorem Rd.len {w:World} {s:Value} {xs:List Nat} (h:Rd w s xs):xs.length≤1099511627776:=by
 obtain⟨-,⟨-,rfl⟩|⟨b,o,cap,-,h1,h2,-⟩⟩:=h
 ·exact Nat.zero_le _
 ·exact h2
theorem kC (s t:Value) (N M:Nat) (w:World) (hs:Rd w s (dg N)) (ht:Rd w t (dg M)) :
  Calls Tryz.prog 104 #[s,t] w fun e w'=>e = .returned (.int .i64 (cmpD N M))∧Below w.heap.size w w':=by
 obtain⟨A,ca,rfl⟩:=hs.form;obtain⟨B,cb,rfl⟩:=ht.form;have lx:=hs.len;have ly:=ht.len;have HS:=Lh hs;have HT:=Lh ht;have dl:=jO N M;have dl2:=jO M N;have eN:=pA N (dg N).length (Nat.le_refl _);have eM:=pA M (dg M).length (Nat.le_refl _);obtain⟨xs,hxs⟩:∃ xs,dg N=xs:=⟨_,rfl⟩;obtain⟨ys,hys⟩:∃ ys,dg M=ys:=⟨_,rfl⟩;rw[hxs] at HS lx dl dl2 eN ⊢;rw[hys] at HT ly dl dl2 eM ⊢;clear hs ht;obtain⟨n,hn⟩:∃ n,xs.length=n:=⟨_,rfl⟩;obtain⟨m,hm⟩:∃ m,ys.length=m:=⟨_,rfl⟩;have DX:Hid (Dig xs):=HS.out.1;have DY:Hid (Dig ys):=HT.out.1;have RX:=Lh (fun i hi=>HS.out.at' (n:=xs.length) i hi);have RY:=Lh (fun i hi=>HT.out.at' (n:=ys.length) i hi);rw[hn] at RX lx dl dl2 eN ⊢;rw[hm] at RY ly dl dl2 eM ⊢;clear HS HT hxs hys;rcases Nat.lt_trichotomy n m with h|h|h
 ·have E:=Lh (ln (dl h));have h1:(n:Int)<(m:Int):=by omega
  have h2:¬ ((n:Int)=(m:Int)):=by omega
  have h3:¬ (n=m):=by omega
  clear dl dl2 eN eM;go_enter Tryz.func104,Tryz.ntmps104;go_wp2_with fail;go_ret;exact⟨by rw[E.out];rfl,Below.refl _ _⟩
 ·subst h;have EN:=Lh eN;have EM:=Lh eM;have n1:wrap64 ((n:Int)-1)=(n:Int)-1:=by unfold wrap64;omega
  clear dl dl2 eN eM;go_enter Tryz.func104,Tryz.ntmps104;go_wp2_with fail;go_loopw [5] (fun t5 wr=>∃ k:Nat,k≤n∧t5 = .int .i64 ((k:Int)-1)∧Hid (∀ i,k≤i→xs.getD i 0=ys.getD i 0)∧Hid (Below w.heap.size w wr)) (fun t5 _=>(intOf t5+1).toNat)
  case atStart=>exact⟨n,Nat.le_refl _,by first|rfl|simp[n1],fun i hi=>by rw[pI _ _ (by omega),pI _ _ (by omega)],Below.refl _ _⟩
  case round =>
   obtain⟨k,hk,rfl,hE,HB⟩:=hrel;rcases k with _|k
   · have E : Hid (cmpD N M = 0) := by
       show _=_;have:N=M:=by rw[← EN.out,← EM.out];exact et _ (fun i _=>hE.out i (Nat.zero_le _))
       rw[this];exact uL M
     have k1:¬ ((0:Int)≤((0:Nat):Int)-1):=by decide
     go_wp2_with fail;go_ret;exact⟨by rw[E.out];rfl,HB.out⟩
   ·obtain⟨ba,oa,rfl,hba,cA,uA⟩:=RX.out k (by omega);obtain⟨bb,ob,rfl,hbb,cB,uB⟩:=RY.out k (by omega);have cA':=(HB.out.cell (p:=⟨ba,oa+k,none⟩) hba).trans cA;have cB':=(HB.out.cell (p:=⟨bb,ob+k,none⟩) hbb).trans cB;have e0:(((k+1:Nat):Int)-1)=(k:Int):=by omega
    have k0:(0:Int)≤(k:Int):=by omega
    have k1:(k:Int)<(n:Int):=by omega
    have k2:wrap64 ((k:Int)-1)=(k:Int)-1:=by unfold wrap64;omega
    obtain⟨u,hu⟩:∃ u,xs.getD k 0=u:=⟨_,rfl⟩;obtain⟨v,hv⟩:∃ v,ys.getD k 0=v:=⟨_,rfl⟩;rw[hu] at cA' uA;rw[hv] at cB' uB;have HU:=Lh hu;have HV:=Lh hv;have hbs:=HB.out.size;rw[e0];clear cA cB hu hv;rcases Nat.lt_trichotomy u v with c|c|c
    · have E : Hid (cmpD N M = -1) := by
        show _=_;refine ln ?_;have:=qE (fun i=>xs.getD i 0) (fun i=>ys.getD i 0) (bI DX.out) (bI DY.out) k (n-(k+1)) (by show xs.getD k 0<ys.getD k 0;rw[HU.out,HV.out];exact c) (fun i hi=>hE.out i (by omega));rw[show k+1+(n-(k+1))=n by omega,EN.out,EM.out] at this;exact this
      have c1:(u:Int)<(v:Int):=by omega
      have c2:¬ ((u:Int)=(v:Int)):=by omega
      have c3:¬ (u=v):=by omega
      have hbw:=HB.out;go_wp2_with fail;go_region
      go_wp2_with fail;go_region
      go_wp2_with fail;go_ret;exact⟨by rw[E.out];rfl,ae⟩
    ·subst c;go_wp2_with fail;go_region
     go_wp2_with fail;go_roundw
     case rel =>
      refine⟨k,by omega,by first|rfl|simp[k2],fun i hi=>?_,?_⟩
      ·rcases Nat.lt_or_ge k i with h|h
       ·exact hE.out i h
       ·obtain rfl:i=k:=by omega
        rw[HU.out,HV.out]
      ·have hbw:=HB.out;exact(show Below _ _ _ from ae)
     case measure=>simp[intOf]
    · have E : Hid (cmpD N M = 1) := by
        show _=_;refine pL ?_;have:=qE (fun i=>ys.getD i 0) (fun i=>xs.getD i 0) (bI DY.out) (bI DX.out) k (n-(k+1)) (by show ys.getD k 0<xs.getD k 0;rw[HU.out,HV.out];exact c) (fun i hi=>(hE.out i (by omega)).symm);rw[show k+1+(n-(k+1))=n by omega,EN.out,EM.out] at this;exact this
      have c1:¬ (u:Int)<(v:Int):=by omega
      have c2:¬ ((u:Int)=(v:Int)):=by omega
      have c3:¬ (u=v):=by omega
      have hbw:=HB.out;go_wp2_with fail;go_region
      go_wp2_with fail;go_region
      go_wp2_with fail;go_ret;exact⟨by rw[E.out];rfl,ae⟩
 ·have E:=Lh (pL (dl2 h));have h1:¬ (n:Int)<(m:Int):=by omega
  have h2:¬ ((n:Int)=(m:Int)):=by omega
  have h3:¬ (n=m):=by omega
  clear dl dl2 eN eM;go_enter Tryz.func104,Tryz.ntmps104;go_wp2_with fail;go_ret;exact⟨by rw[E.out];rfl,Below.refl _ _⟩

def setD (f:Nat→Nat) (p v:Nat):Nat→Nat:=fun k=>if k=p then v else f k
theorem en (f:Nat→Nat) (p v n:Nat) (h:p<n):nvf (setD f p v) n+4294967296^p*f p=nvf f n+4294967296^p*v:=by
 induction n with
 | zero=>omega
 | succ n ih =>
  show nvf (setD f p v) n+4294967296^n*setD f p v n+4294967296^p*f p=nvf f n+4294967296^n*f n+4294967296^p*v;by_cases e:p=n
  ·subst e;have e1:nvf (setD f p v) p=nvf f p:=et p (fun i hi=>by unfold setD;rw[if_neg (by omega)]);have e2:setD f p v p=v:=by unfold setD;rw[if_pos rfl]
   rw[e1,e2];omega
  ·have e2:setD f p v n=f n:=by unfold setD;rw[if_neg (by omega)]
   rw[e2];have:=ih (by omega);omega
theorem ej {f:Nat→Nat} (hf:∀ i,f i<4294967296) (p v:Nat) (hv:v<4294967296) (i:Nat):setD f p v i<4294967296:=by
 unfold setD;split;exact hv;exact hf i
theorem ya (f:Nat→Nat) (p c x n V:Nat) (hp:p<n) (h:nvf f n+4294967296^p*c=V) :
  nvf (setD f p ((c+x+f p)%4294967296)) n+4294967296^(p+1)*((c+x+f p)/4294967296)=V+4294967296^p*x:=by
 have h1:=en f p ((c+x+f p)%4294967296) n hp;have h2:=Nat.div_add_mod (c+x+f p) 4294967296;rw[Nat.pow_succ];generalize nvf (setD f p ((c+x+f p)%4294967296)) n=A at *;generalize nvf f n=B at *;generalize 4294967296^p=P at *;generalize (c+x+f p)/4294967296=q at *;generalize (c+x+f p)%4294967296=r at *;generalize f p=d at *;have e:P*r+P*4294967296*q=P*(c+x+d):=by rw[← h2];grind
 have e2:P*(c+x+d)=P*c+P*x+P*d:=by grind
 omega
theorem ss (f:Nat→Nat) (k n:Nat) (h:k≤n) (hz:∀ i,k≤i→i<n→f i=0):nvf f n=nvf f k:=by
 induction n with
 | zero=>rw[show k=0 by omega]
 | succ n ih =>
  by_cases e:k=n+1
  ·rw[e]
  ·show nvf f n+4294967296^n*f n=_;rw[hz n (by omega) (by omega),Nat.mul_zero,Nat.add_zero];exact ih (by omega) (fun i h1 h2=>hz i h1 (by omega))
theorem mp (n:Nat):nvf (fun _=>0) n=0:=by
 induction n with
 | zero=>rfl
 | succ n ih=>show nvf (fun _=>0) n+4294967296^n*0=0;rw[ih];rfl
structure Mid (f:Nat→Nat) (c:Nat) (X g:Nat→Nat) (i j lb n:Nat):Prop where
 dig:∀ k,f k<4294967296
 hc:c<4294967296
 val:nvf f n+4294967296^(i+j)*c=nvf X i*nvf g lb+4294967296^i*(X i*nvf g j)
 zero:∀ k,i+lb≤k→k<n→f k=0
structure Out (f:Nat→Nat) (X g:Nat→Nat) (i lb n:Nat):Prop where
 dig:∀ k,f k<4294967296
 val:nvf f n=nvf X i*nvf g lb
 zero:∀ k,i+lb≤k→k<n→f k=0
theorem xR (X g:Nat→Nat) (lb n:Nat):Out (fun _=>0) X g 0 lb n:=⟨fun _=>by decide,by rw [mp];show 0=0*_;omega,fun _ _ _=>rfl⟩
theorem vP {f X g:Nat→Nat} {i lb n:Nat} (h:Out f X g i lb n):Mid f 0 X g i 0 lb n :=
 ⟨h.dig,by decide,by rw[h.val];show _=_+4294967296^i*(X i*0);omega,h.zero⟩
theorem oe {f X g:Nat→Nat} {c i j lb n:Nat} (h:Mid f c X g i j lb n) (hX:∀ k,X k<4294967296) (hg:∀ k,g k<4294967296):c+X i*g j+f (i+j)≤18446744073709551615∧X i*g j≤18446744065119617025:=by
 have h1:X i*g j≤4294967295*4294967295:=Nat.mul_le_mul (by have:=hX i;omega) (by have:=hg j;omega);have:=h.hc;have:=h.dig (i+j);omega
theorem yi {f X g:Nat→Nat} {c i j lb n:Nat} (h:Mid f c X g i j lb n) (hX:∀ k,X k<4294967296) (hg:∀ k,g k<4294967296) (hj:j<lb) (hn:i+lb<n) :
  Mid (setD f (i+j) ((c+X i*g j+f (i+j))%4294967296)) ((c+X i*g j+f (i+j))/4294967296) X g i (j+1) lb n:=by
 have hb:=oe h hX hg;refine⟨ej h.dig _ _ (Nat.mod_lt _ (by decide)),by omega,?_,fun k h1 h2=>by unfold setD;rw[if_neg (by omega)];exact h.zero k h1 h2⟩;have:=ya f (i+j) c (X i*g j) n _ (by omega) h.val;rw[show i+(j+1)=i+j+1 by omega,this,Nat.pow_add];show _=_+4294967296^i*(X i*(nvf g j+4294967296^j*g j));generalize nvf X i*nvf g lb=A;generalize nvf g j=B;generalize 4294967296^i=P;generalize 4294967296^j=Q;grind
theorem xS {f X g:Nat→Nat} {c i lb n:Nat} (h:Mid f c X g i lb lb n) (hn:i+lb<n):Out (setD f (i+lb) c) X g (i+1) lb n:=by
 have h1:=en f (i+lb) c n hn;rw[h.zero (i+lb) (Nat.le_refl _) hn,Nat.mul_zero,Nat.add_zero] at h1;refine⟨ej h.dig _ _ h.hc,?_,fun k h2 h3=>by unfold setD;rw[if_neg (by omega)];exact h.zero k (by omega) h3⟩;rw[h1,h.val];show _=(nvf X i+4294967296^i*X i)*nvf g lb;generalize nvf X i=A;generalize nvf g lb=B;generalize 4294967296^i=P;grind

theorem jk (N i:Nat):(dg N).getD i 0=N/4294967296^i%4294967296:=by
 induction i generalizing N with
 | zero =>
  by_cases h:N=0
  ·subst h;rw[bp];rfl
  ·rw[fj N h];simp
 | succ i ih =>
  by_cases h:N=0
  ·subst h;rw[bp];simp
  ·rw[fj N h];have:=ih (N/4294967296);rw[List.getD_cons_succ,this,Nat.div_div_eq_div_mul,Nat.pow_succ,Nat.mul_comm 4294967296]
theorem ir (f:Nat→Nat) (M n:Nat) (h:∀ i,i<n→f i=M/4294967296^i%4294967296):nvf f n=M%4294967296^n:=by
 induction n with
 | zero=>show 0=M%1;omega
 | succ n ih =>
  show nvf f n+4294967296^n*f n=_;rw[ih (fun i hi=>h i (by omega)),h n (by omega),Nat.pow_succ,Nat.mod_mul]
/-! ### left -/
structure Lft (f X:Nat→Nat) (q r i n:Nat):Prop where
 dig:∀ k,f k<4294967296
 val:nvf f n=nvf X i*(4294967296^q*2^r)
 top:f (i+q)<2^r
 zero:∀ k,i+q<k→f k=0
theorem yo (X:Nat→Nat) (q r n:Nat):Lft (fun _=>0) X q r 0 n:=⟨fun _=>by decide,by rw [mp];show 0=0*_;omega,Nat.two_pow_pos r,fun _ _=>rfl⟩
theorem yl (x r:Nat) (hr:r≤32):x*2^r%4294967296=(x%2^(32-r))*2^r:=by
 have e:(4294967296:Nat)=2^(32-r)*2^r:=by rw[← Nat.pow_add,show 32-r+r=32 by omega]
 rw[e,Nat.mul_mod_mul_right]
theorem jH (x r:Nat) (hx:x<4294967296):x*2^r/4294967296<2^r:=by
 rw[Nat.div_lt_iff_lt_mul (by decide),Nat.mul_comm];exact Nat.mul_lt_mul_of_pos_left hx (Nat.two_pow_pos r)
theorem xU (d x r:Nat) (hr:r≤32) (hd:d<2^r):d ||| (x*2^r%4294967296)=d+x*2^r%4294967296:=by
 rw[yl x r hr,Nat.or_comm,fz _ _ _ hd,Nat.add_comm]
theorem vE (d x r:Nat) (hr:r≤32) (hd:d<2^r):d ||| (x*2^r%4294967296)<4294967296:=by
 have h1:(2:Nat)^r≤4294967296:=Nat.pow_le_pow_right (n:=2) (by decide) hr;have h2:d<2^32:=Nat.lt_of_lt_of_le hd h1;have h3:x*2^r%4294967296<2^32:=Nat.mod_lt _ (by decide);exact Nat.or_lt_two_pow h2 h3
theorem yp {f X:Nat→Nat} {q r i n:Nat} (h:Lft f X q r i n) (hX:X i<4294967296) (hr:r<32) (hn:i+q+1<n) :
  Lft (setD (setD f (i+q) (f (i+q) ||| (X i*2^r%4294967296))) (i+q+1) (X i*2^r/4294967296)) X q r (i+1) n:=by
 have hr':r≤32:=by omega
 have hh:=jH (X i) r hX;have h1:(2:Nat)^r≤4294967296:=Nat.pow_le_pow_right (n:=2) (by decide) hr';refine⟨ej (ej h.dig _ _ (vE _ _ _ hr' h.top)) _ _ (by omega),?_,?_,fun k hk=>?_⟩
 ·have a1:=en f (i+q) (f (i+q) ||| (X i*2^r%4294967296)) n (by omega);have a2:=en (setD f (i+q) (f (i+q) ||| (X i*2^r%4294967296))) (i+q+1) (X i*2^r/4294967296) n hn;rw[show setD f (i+q) (f (i+q) ||| (X i*2^r%4294967296)) (i+q+1)=0 from by unfold setD;rw[if_neg (by omega)];exact h.zero _ (by omega),Nat.mul_zero,Nat.add_zero] at a2;rw[xU _ _ _ hr' h.top] at a1;rw[a2];have hv:=h.val;show _=(nvf X i+4294967296^i*X i)*(4294967296^q*2^r);rw[xU _ _ _ hr' h.top];have e:=Nat.div_add_mod (X i*2^r) 4294967296;generalize hL:X i*2^r%4294967296=L at *;generalize hH:X i*2^r/4294967296=Hh at *;generalize nvf (setD f (i+q) (f (i+q)+L)) n=A at *;generalize nvf f n=Bf at *;generalize f (i+q)=d at *;generalize nvf X i=C at *;rw[Nat.pow_succ,Nat.pow_add] at *;generalize 4294967296^i=P at *;generalize 4294967296^q=Q at *;generalize 2^r=R at *;generalize X i=x at *;have e2:P*Q*(4294967296*Hh+L)=P*Q*(x*R):=by rw[e]
  have e3:(C+P*x)*(Q*R)=C*(Q*R)+P*Q*(x*R):=by grind
  have e4:P*Q*(4294967296*Hh+L)=P*Q*4294967296*Hh+P*Q*L:=by grind
  have e5:P*Q*(d+L)=P*Q*d+P*Q*L:=by grind
  omega
 ·unfold setD;rw[show i+1+q=i+q+1 by omega,if_pos rfl];exact hh
 ·unfold setD;rw[if_neg (by omega),if_neg (by omega)];exact h.zero k (by omega)
/-! ### right -/
theorem qp (N q r i:Nat) (hr:r<32) :
  (N/4294967296^(q+i)%4294967296+4294967296*(N/4294967296^(q+i+1)%4294967296))/2^r%4294967296=N/(4294967296^q*2^r)/4294967296^i%4294967296:=by
 have e1:N/(4294967296^q*2^r)/4294967296^i=N/4294967296^(q+i)/2^r:=by
  rw[Nat.div_div_eq_div_mul,Nat.div_div_eq_div_mul,Nat.pow_add];congr 1
  generalize 4294967296^q=a;generalize 4294967296^i=b;generalize 2^r=c;grind
 have e2:N/4294967296^(q+i+1)=N/4294967296^(q+i)/4294967296:=by rw[Nat.div_div_eq_div_mul,Nat.pow_succ]
 rw[e1,e2];generalize N/4294967296^(q+i)=K;have e3:K%4294967296+4294967296*(K/4294967296%4294967296)=K%(4294967296*4294967296):=(Nat.mod_mul (b:=4294967296)).symm;rw[e3]
 have e4:(4294967296:Nat)*4294967296=2^r*(2^(32-r)*4294967296):=by
  rw[← Nat.mul_assoc,← Nat.pow_add,show r+(32-r)=32 by omega]
 rw[e4,Nat.mod_mul_right_div_self,Nat.mod_mul_left_mod]
theorem sI (N i:Nat):(N%4294967296^(i+1)≠0)↔(N%4294967296^i≠0∨N/4294967296^i%4294967296≠0):=by
 rw[Nat.pow_succ,Nat.mod_mul];have hp:0<4294967296^i:=Nat.pow_pos (by decide);generalize N/4294967296^i%4294967296=d;generalize N%4294967296^i=m;generalize 4294967296^i=P at *;constructor
 ·intro h;by_cases hm:m=0
  ·right;intro hd;subst hd;subst hm;exact h (by simp)
  ·exact .inl hm
 ·rintro(h|h)
  ·omega
  ·have:=Nat.mul_pos hp (Nat.pos_of_ne_zero h);omega
theorem vR (N q r:Nat) (hr:r<32):(N%(4294967296^q*2^r)≠0)↔(N%4294967296^q≠0∨N/4294967296^q%4294967296%2^r≠0):=by
 rw[Nat.mod_mul];have hp:0<4294967296^q:=Nat.pow_pos (by decide);have e:(4294967296:Nat)=2^r*2^(32-r):=by rw[← Nat.pow_add,show r+(32-r)=32 by omega]
 have e2:N/4294967296^q%4294967296%2^r=N/4294967296^q%2^r:=by
  generalize N/4294967296^q=K;rw[e,Nat.mod_mul_right_mod]
 rw[e2];generalize N/4294967296^q%2^r=d;generalize N%4294967296^q=m;generalize 4294967296^q=P at *;constructor
 ·intro h;by_cases hm:m=0
  ·right;intro hd;subst hd;subst hm;exact h (by simp)
  ·exact .inl hm
 ·rintro(h|h)
  ·omega
  ·have:=Nat.mul_pos hp (Nat.pos_of_ne_zero h);omega
theorem vq (N q r n:Nat) (hN:N<4294967296^n) (hq:q≤n) (hr:r<32) (f:Nat→Nat)
  (hf:∀ i,i<n-q→f i=(N/4294967296^(q+i)%4294967296+4294967296*(N/4294967296^(q+i+1)%4294967296))/2^r%4294967296) :
  nvf f (n-q)=N/(4294967296^q*2^r):=by
 rw[ir f (N/(4294967296^q*2^r)) (n-q) (fun i hi=>by rw[hf i hi,qp N q r i hr])];refine Nat.mod_eq_of_lt ?_;have hp:0<4294967296^q:=Nat.pow_pos (by decide);have h2:=Nat.two_pow_pos r;rw[Nat.div_lt_iff_lt_mul (Nat.mul_pos hp h2)];have e:4294967296^n=4294967296^(n-q)*4294967296^q:=by rw[← Nat.pow_add,show n-q+q=n by omega]
 rw[e] at hN;have:4294967296^(n-q)*4294967296^q*1≤4294967296^(n-q)*4294967296^q*2^r:=Nat.mul_le_mul_left _ h2;rw[Nat.mul_one] at this;rw[← Nat.mul_assoc];exact Nat.lt_of_lt_of_le hN this
theorem iT (k:Nat):(4294967296:Nat)^(k/32)*2^(k%32)=2^k:=by
 rw[show(4294967296:Nat)=2^32 from rfl,← Nat.pow_mul,← Nat.pow_add,Nat.div_add_mod]
end Go.Proofs.YtnoidlacjiafdaaGreat
