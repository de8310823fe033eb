/- The walk of the document's product of digits: times. The walk of the document's shift to the left: left. The walk of the document's shift to the right: right. A region that draws its order, whose calls' results are known by what they mean alone (they may lie anywhere), and that may end in a tail whose order is forced: ONE walk, in the order of the text, serves every order. No program in sight. -/
import Derived.Test.YtnoidlacjiafdaaGreatRA
import Derived.StillTail
import Derived.Deep.Quiet
import Derived.Below
import Derived.Tactics
import Derived.BigQuiet
import Derived.Lib.Hide
set_option maxRecDepth 100000
set_option maxHeartbeats 16000000
namespace Go.Proofs.YtnoidlacjiafdaaGreat
set_option linter.unusedSimpArgs false
set_option linter.unusedVariables false
open Go.RowKit

theorem FT (a b c:Nat):(((a+b+c)%4294967296:Nat):Int)=((a:Int)+(b+c))%4294967296:=by omega
theorem Ae (s t:Value) (xs ys:List Nat) (w:World) (hs:Rd w s xs) (ht:Rd w t ys) (hx:xs.length≤1000000) (hy:ys.length≤1000000) :
  Calls Tryz.prog 82 #[s,t] w fun e w'=>(∃ s',e = .returned s'∧Rd w' s' (dg (nv xs*nv ys)))∧Below w.heap.size w w':=by
 obtain⟨i0,hi,hz0,hz1,hz2⟩:=info_parts eo;obtain⟨A,ca,rfl⟩:=hs.form;obtain⟨B,cb,rfl⟩:=ht.form;have HS:=Lh hs;have HT:=Lh ht;clear hs ht;obtain⟨X,hX⟩:∃ f:Nat→Nat,f=fun i=>xs.getD i 0:=⟨_,rfl⟩;obtain⟨g,hg⟩:∃ f:Nat→Nat,f=fun i=>ys.getD i 0:=⟨_,rfl⟩;have Xlt:Hid (∀ i,X i<4294967296):=by rw[hX];exact bI HS.out.1
 have glt:Hid (∀ i,g i<4294967296):=by rw[hg];exact bI HT.out.1
 have EX:Hid (nvf X xs.length=nv xs):=by rw[hX];exact dM xs _ (Nat.le_refl _)
 have EG:Hid (nvf g ys.length=nv ys):=by rw[hg];exact dM ys _ (Nat.le_refl _)
 have hX':Hid (∀ i,xs.getD i 0=X i):=fun i=>by rw[hX]
 have hg':Hid (∀ i,ys.getD i 0=g i):=fun i=>by rw[hg]
 have RX:=Lh (fun i hi=>HS.out.at' (n:=xs.length) i hi);have RY:=Lh (fun i hi=>HT.out.at' (n:=ys.length) i hi);clear hX hg HS HT;obtain⟨n,hn⟩:∃ n,xs.length=n:=⟨_,rfl⟩;obtain⟨m,hm'⟩:∃ m,ys.length=m:=⟨_,rfl⟩;have hm:=run_make_row (P:=Tryz.prog) 50 125 i0 (.int .u32 0) Tryz.underlying50 hi hz0 hz1 rfl .i64 .i64 (xs.length+ys.length) (by rw[hz2];omega) (by omega);push_cast at hm;rw[hn] at EX hx hm RX ⊢;rw[hm'] at EG hy hm RY ⊢;have m1:wrap64 ((n:Int)+m)=((n+m:Nat):Int):=by unfold wrap64;omega
 go_enter Tryz.func82,Tryz.ntmps82;go_wp2_with fail;clear m1 hm;have hr0:=Lh (World.rowIs_made w (.int .u32 0) (n+m) 125);go_loopw [19] (fun t19 wr=>∃ (k:Nat) (F:Nat→Nat),k≤n∧t19 = .int .i64 k∧Hid (Out F X g k m (n+m))∧Hid (wr.rowIs w.heap.size 125 (n+m) (fun i => .int .u32 ((F i:Nat):Int)))∧Hid (Below w.heap.size w wr)) (fun t19 _=>n-(intOf t19).toNat)
 case atStart=>exact⟨0,fun _=>0,Nat.zero_le _,rfl,xR X g m (n+m),hr0.out.congr (fun i _=>by simp),ae⟩
 case round =>
  obtain⟨k,F,hk,rfl,HO,HRW,HBR⟩:=hrel;by_cases hlt:k<n
  ·obtain⟨ba,oa,rfl,hba,cA,uA⟩:=RX.out k hlt;have cA':=(HBR.out.cell (p:=⟨ba,oa+k,none⟩) hba).trans cA;rw[hX'.out] at cA' uA;obtain⟨x,hx1⟩:∃ x,X k=x:=⟨_,rfl⟩;rw[hx1] at cA' uA;have HX1:=Lh hx1;clear hx1;have hbs:=HBR.out.size;have k0:(0:Int)≤(k:Int):=by omega
   have k1:(k:Int)<(n:Int):=by omega
   clear cA;go_wp2_with fail;go_loopw [8,26] (fun t8 t26 wr2=>∃ (j c:Nat) (F2:Nat→Nat),j≤m∧t26 = .int .i64 j∧t8 = .int .u64 c∧Hid (Mid F2 c X g k j m (n+m))∧Hid (wr2.rowIs w.heap.size 125 (n+m) (fun i => .int .u32 ((F2 i:Nat):Int)))∧Hid (Below w.heap.size w wr2)) (fun _ t26 _=>m-(intOf t26).toNat)
   case atStart=>exact⟨0,0,F,Nat.zero_le _,rfl,rfl,vP HO.out,HRW.out,HBR.out⟩
   case round =>
    obtain⟨j,c,F2,hj,rfl,rfl,HM,HR2,HB2⟩:=hrel;by_cases hlj:j<m
    ·obtain⟨bb,ob,rfl,hbb,cB,uB⟩:=RY.out j hlj;have cB':=(HB2.out.cell (p:=⟨bb,ob+j,none⟩) hbb).trans cB;rw[hg'.out] at cB' uB;have hbs2:=HB2.out.size;have hck:=HR2.out.cell (show k+j<n+m by omega);have hfk:=HR2.out.frozen;have hbd:=oe HM.out Xlt.out glt.out;have HN:=Lh (yi HM.out Xlt.out glt.out hlj (by omega));have hcc:=HM.out.hc;have hdd:=HM.out.dig (k+j);have j0:(0:Int)≤(j:Int):=by omega
     have j1:(j:Int)<(m:Int):=by omega
     have HST:Hid (∀ v:Nat,(wr.setCell ⟨w.heap.size,k+j,none⟩ (.int .u32 (v:Int))).rowIs w.heap.size 125 (n+m) (fun i => .int .u32 ((setD F2 (k+j) v i:Nat):Int))∧Below w.heap.size w (wr.setCell ⟨w.heap.size,k+j,none⟩ (.int .u32 (v:Int)))):=fun v=>by
      refine⟨(HR2.out.set (k+j) _).congr (fun i _=>?_),HB2.out.setCell (Nat.le_refl _) _⟩;unfold setD;by_cases e:i=k+j
      ·rw[if_pos e,if_pos e]
      ·rw[if_neg e,if_neg e]
     obtain⟨y,hy1⟩:∃ y,g j=y:=⟨_,rfl⟩;obtain⟨d,hd1⟩:∃ d,F2 (k+j)=d:=⟨_,rfl⟩;rw[HX1.out,hy1,hd1] at HN hbd;rw[hy1] at cB' uB;rw[hd1] at hck hdd;obtain⟨z,hz⟩:∃ z,x*y=z:=⟨_,rfl⟩;rw[hz] at HN hbd;have hz':(x:Int)*(y:Int)=(z:Int):=by rw[← hz];push_cast;rfl
     have HSV:=HST.out ((c+z+d)%4294967296);rw[FT] at HSV;have HSW:=Lh HSV;clear cB hy1 hd1 hz HSV;go_wp2_with fail;refine⟨⟨j+1,_,_,by omega,by first|rfl|go_num,?_,HN.out,HSW.out.1,HSW.out.2⟩,by simp[intOf];omega⟩;go_num
    ·obtain rfl:j=m:=by omega
     have hbs2:=HB2.out.size;have hck:=HR2.out.cell (show k+j<n+j by omega);have hfk:=HR2.out.frozen;have HN:=Lh (xS HM.out (by omega));have hcc:=HM.out.hc;have j1:¬ (j:Int)<(j:Int):=by omega
     have HST:Hid (∀ v:Nat,(wr.setCell ⟨w.heap.size,k+j,none⟩ (.int .u32 (v:Int))).rowIs w.heap.size 125 (n+j) (fun i => .int .u32 ((setD F2 (k+j) v i:Nat):Int))∧Below w.heap.size w (wr.setCell ⟨w.heap.size,k+j,none⟩ (.int .u32 (v:Int)))):=fun v=>by
      refine⟨(HR2.out.set (k+j) _).congr (fun i _=>?_),HB2.out.setCell (Nat.le_refl _) _⟩;unfold setD;by_cases e:i=k+j
      ·rw[if_pos e,if_pos e]
      ·rw[if_neg e,if_neg e]
     go_wp2_with fail;refine⟨⟨k+1,_,by omega,by first|rfl|go_num,HN.out,(HST.out _).1,(HST.out _).2⟩,by simp[intOf];omega⟩
  ·obtain rfl:k=n:=by omega
   have k1:¬ (k:Int)<(k:Int):=by omega
   have hbs:=HBR.out.size;have hrd:=Lh (Rd.row HRW.out (by omega) (fun i hi=>HO.out.dig i));have hval:Hid (nvf F (k+m)=nv xs*nv ys):=by have:=HO.out.val;rw[EX.out,EG.out] at this;exact this
   go_wp2_with fail;refine(ev _ _ _ hrd.out).mono ?_;rintro e w1 ⟨⟨s',rfl,hs'⟩,rfl⟩;have hs2:=Lh (hs' _ hrd.out);clear hs';go_wp2_with fail;go_ret;exact⟨⟨_,rfl,by have:=hs2.out;rwa [dN,hval.out] at this⟩,HBR.out⟩
open Go.RowKit

theorem fV (a b:Nat) (ha:a<4294967296) (hb:b<4294967296):bits .or .u32 (a:Int) (b:Int)=((a ||| b:Nat):Int):=by
 have hx:a ||| b<2^32:=Nat.or_lt_two_pow (by omega) (by omega)
 have h1:(BitVec.ofInt 32 (a:Int)).toNat=a:=by
  rw[BitVec.ofInt_natCast,BitVec.toNat_ofNat];exact Nat.mod_eq_of_lt (by omega)
 have h2:(BitVec.ofInt 32 (b:Int)).toNat=b:=by
  rw[BitVec.ofInt_natCast,BitVec.toNat_ofNat];exact Nat.mod_eq_of_lt (by omega)
 show IntKind.u32.wrap ((BitVec.ofInt 32 (a:Int) ||| BitVec.ofInt 32 (b:Int)).toNat:Int)=_;rw[BitVec.toNat_or,h1,h2,IntKind.wrap_u32];omega
theorem sJ (s:Value) (xs:List Nat) (k:Nat) (w:World) (hs:Rd w s xs) (hx:xs.length≤1000000) (hk:k≤1000000) :
  Calls Tryz.prog 109 #[s,.int .i64 k] w fun e w'=>(∃ s',e = .returned s'∧Rd w' s' (dg (nv xs*2^k)))∧Below w.heap.size w w':=by
 obtain⟨i0,hi,hz0,hz1,hz2⟩:=info_parts eo;obtain⟨A,ca,rfl⟩:=hs.form;have HS:=Lh hs;clear hs;obtain⟨X,hX⟩:∃ f:Nat→Nat,f=fun i=>xs.getD i 0:=⟨_,rfl⟩;have Xlt:Hid (∀ i,X i<4294967296):=by rw[hX];exact bI HS.out.1
 have EX:Hid (nvf X xs.length=nv xs):=by rw[hX];exact dM xs _ (Nat.le_refl _)
 have hX':Hid (∀ i,xs.getD i 0=X i):=fun i=>by rw[hX]
 have RX:=Lh (fun i hi=>HS.out.at' (n:=xs.length) i hi);clear hX HS;obtain⟨n,hn⟩:∃ n,xs.length=n:=⟨_,rfl⟩;obtain⟨q,hq⟩:∃ q,q=k/32:=⟨_,rfl⟩;obtain⟨r,hr⟩:∃ r,r=k%32:=⟨_,rfl⟩;have hr32:r<32:=by omega
 have hq2:q≤1000000:=by omega
 have hsp:Hid (4294967296^q*2^r=2^k):=by rw[hq,hr];exact iT k
 have tq:(k:Int).tdiv 32=(q:Int):=by rw[Int.tdiv_eq_ediv_of_nonneg (by omega)];omega
 have tr:(k:Int).tmod 32=(r:Int):=by rw[Int.tmod_eq_emod_of_nonneg (by omega)];omega
 have hm:=run_make_row (P:=Tryz.prog) 50 125 i0 (.int .u32 0) Tryz.underlying50 hi hz0 hz1 rfl .i64 .i64 (xs.length+q+1) (by rw[hz2];omega) (by omega);push_cast at hm;rw[hn] at EX hx hm RX ⊢;clear hq hr;by_cases h0:n=0
 · have E : Hid (nv xs * 2 ^ k = 0) := by
     show _=_;rw[← EX.out,h0];exact Nat.zero_mul _
   subst h0;clear hm;go_enter Tryz.func109,Tryz.ntmps109;go_wp2_with fail;go_ret;exact⟨⟨_,rfl,by rw[E.out,bp];exact⟨fun d hd=>by simp at hd,.inl ⟨rfl,rfl⟩⟩⟩,Below.refl _ _⟩
 have n0:¬ ((n:Int)=0):=by omega
 go_enter Tryz.func109,Tryz.ntmps109;go_wp2_with fail;clear hm;have hr0:=Lh (World.rowIs_made w (.int .u32 0) (n+q+1) 125);go_loopw [21] (fun t21 wr=>∃ (i:Nat) (F:Nat→Nat),i≤n∧t21 = .int .i64 i∧Hid (Lft F X q r i (n+q+1))∧Hid (wr.rowIs w.heap.size 125 (n+q+1) (fun i => .int .u32 ((F i:Nat):Int)))∧Hid (Below w.heap.size w wr)) (fun t21 _=>n-(intOf t21).toNat)
 case atStart=>exact⟨0,fun _=>0,Nat.zero_le _,rfl,yo X q r (n+q+1),hr0.out.congr (fun i _=>by simp),ae⟩
 case round =>
  obtain⟨i,F,hi',rfl,HL,HRW,HBR⟩:=hrel;by_cases hlt:i<n
  ·obtain⟨ba,oa,rfl,hba,cA,uA⟩:=RX.out i hlt;have cA':=(HBR.out.cell (p:=⟨ba,oa+i,none⟩) hba).trans cA;rw[hX'.out] at cA' uA;have hbs:=HBR.out.size;have hck:=HRW.out.cell (show i+q<n+q+1 by omega);have hck2:=HRW.out.cell (show i+q+1<n+q+1 by omega);have hfk:=HRW.out.frozen;have hz:=HL.out.zero (i+q+1) (by omega);rw[hz] at hck2;have HN:=Lh (yp HL.out (Xlt.out i) hr32 (by omega));have k0:(0:Int)≤(i:Int):=by omega
   have k1:(i:Int)<(n:Int):=by omega
   have nb:¬ ba=w.heap.size:=by omega
   obtain⟨x,hx1⟩:∃ x,X i=x:=⟨_,rfl⟩;rw[hx1] at cA' uA HN;clear cA hx1 hz
   have hp:x*2^r<18446744073709551616:=by
    have:=jH x r uA;have h2:(2:Nat)^r≤4294967296:=Nat.pow_le_pow_right (n:=2) (by decide) (by omega:r≤32);omega
   have hw:IntKind.u64.wrap ((x:Int)*2^r)=((x*2^r:Nat):Int):=by
    rw[show((x:Int)*2^r)=((x*2^r:Nat):Int) by push_cast;rfl,IntKind.wrap_u64];omega
   have hw1:((x*2^r:Nat):Int)%4294967296=((x*2^r%4294967296:Nat):Int):=by omega
   have hw2:((x*2^r:Nat):Int)/4294967296%4294967296=((x*2^r/4294967296:Nat):Int):=by omega
   have hW:=Lh (And.intro hw (And.intro hw1 hw2));have hFd:=HL.out.dig (i+q);clear hp hw hw1 hw2;go_wp2_with fail;rw[hW.out.1,hW.out.2.1,hW.out.2.2,fV _ _ hFd (Nat.mod_lt _ (by decide)),show bits .or .u32 0 ((x*2^r/4294967296:Nat):Int)=((0 ||| x*2^r/4294967296:Nat):Int) from fV 0 _ (by decide) (Nat.lt_of_lt_of_le (jH x r uA) (show(2:Nat)^r≤4294967296 from Nat.pow_le_pow_right (n:=2) (j:=32) (by decide) (by omega))),Nat.zero_or];refine⟨⟨i+1,_,by omega,by first|rfl|go_num,HN.out,?_,?_⟩,by simp[intOf];omega⟩
   ·refine Lh (((HRW.out.set (i+q) _).set (i+q+1) _).congr (fun j _=>?_));unfold setD;by_cases e:j=i+q+1
    ·rw[if_pos e,if_pos e]
    ·rw[if_neg e,if_neg e];by_cases e2:j=i+q
     ·rw[if_pos e2,if_pos e2]
     ·rw[if_neg e2,if_neg e2]
   ·exact Lh ((HBR.out.setCell (Nat.le_refl _) _).setCell (Nat.le_refl _) _)
  ·obtain rfl:i=n:=by omega
   have k1:¬ (i:Int)<(i:Int):=by omega
   have hbs:=HBR.out.size;have hrd:=Lh (Rd.row HRW.out (by omega) (fun j _=>HL.out.dig j));have hval:Hid (nvf F (i+q+1)=nv xs*2^k):=by have:=HL.out.val;rw[EX.out,hsp.out] at this;exact this
   go_wp2_with fail;refine(ev _ _ _ hrd.out).mono ?_;rintro e w1 ⟨⟨s',rfl,hs'⟩,rfl⟩;have hs2:=Lh (hs' _ hrd.out);clear hs';go_wp2_with fail;go_ret;exact⟨⟨_,rfl,by have:=hs2.out;rwa [dN,hval.out] at this⟩,HBR.out⟩
open Go.RowKit

def vV (N k:Nat):Bool:=decide (N%2^k≠0)
def goneD (N i:Nat):Bool:=decide (N%4294967296^i≠0)
theorem sX (N:Nat):goneD N 0=false:=by unfold goneD;simp [Nat.mod_one]
theorem sY (N i x:Nat) (hx:N/4294967296^i%4294967296=x):goneD N (i+1)=(goneD N i||decide (x≠0)):=by
 unfold goneD;rw[Bool.eq_iff_iff];simp only[Bool.or_eq_true,decide_eq_true_eq];rw[sI,hx]
theorem yx (N q r x:Nat) (hr:r<32) (hx:N/4294967296^q%4294967296=x) (k:Nat) (hk:4294967296^q*2^r=2^k):vV N k=(goneD N q||decide (x%2^r≠0)):=by
 unfold vV goneD;rw[Bool.eq_iff_iff];simp only[Bool.or_eq_true,decide_eq_true_eq];rw[← hk,vR N q r hr,hx]
theorem rs (N:Nat):N<4294967296^(dg N).length:=by
 have:=mq (dg N) (fQ N);rwa [aY] at this
theorem rL (x r:Nat) (hx:x<4294967296) (hr:r<32):bits .and .u32 (x:Int) (IntKind.u32.wrap (IntKind.u32.wrap (1*2^r)-1))=((x%2^r:Nat):Int):=by
 have h1:(2:Nat)^r≤2^31:=dL r 31 (by omega);have hp:=Nat.two_pow_pos r
 have e:IntKind.u32.wrap (IntKind.u32.wrap (1*2^r)-1)=((2^r-1:Nat):Int):=by
  have e1:((2:Int)^r)=((2^r:Nat):Int):=by push_cast;rfl
  rw[Int.one_mul,e1];generalize (2:Nat)^r=p at *;rw[IntKind.wrap_u32,IntKind.wrap_u32];omega
 rw[e]
 have h2:(BitVec.ofInt 32 (x:Int)).toNat=x:=by
  rw[BitVec.ofInt_natCast,BitVec.toNat_ofNat];exact Nat.mod_eq_of_lt (by omega)
 have h3:(BitVec.ofInt 32 ((2^r-1:Nat):Int)).toNat=2^r-1:=by
  rw[BitVec.ofInt_natCast,BitVec.toNat_ofNat];exact Nat.mod_eq_of_lt (by omega)
 show IntKind.u32.wrap ((BitVec.ofInt 32 (x:Int) &&& BitVec.ofInt 32 ((2^r-1:Nat):Int)).toNat:Int)=_;rw[BitVec.toNat_and,h2,h3,Nat.and_two_pow_sub_one_eq_mod,IntKind.wrap_u32];have:x%2^r≤x:=Nat.mod_le _ _;omega
theorem kj (x y:Nat) (hx:x<4294967296) (hy:y<4294967296):bits .or .u64 (x:Int) (IntKind.u64.wrap ((y:Int)*4294967296))=((x+4294967296*y:Nat):Int):=by
 have e:IntKind.u64.wrap ((y:Int)*4294967296)=((y*2^32:Nat):Int):=by rw[IntKind.wrap_u64];omega
 rw[e]
 have h2:(BitVec.ofInt 64 (x:Int)).toNat=x:=by
  rw[BitVec.ofInt_natCast,BitVec.toNat_ofNat];exact Nat.mod_eq_of_lt (by omega)
 have h3:(BitVec.ofInt 64 ((y*2^32:Nat):Int)).toNat=y*2^32:=by
  rw[BitVec.ofInt_natCast,BitVec.toNat_ofNat];exact Nat.mod_eq_of_lt (by omega)
 show IntKind.u64.wrap ((BitVec.ofInt 64 (x:Int) ||| BitVec.ofInt 64 ((y*2^32:Nat):Int)).toNat:Int)=_;rw[BitVec.toNat_or,h2,h3,Nat.or_comm,fz y x 32 (by omega),IntKind.wrap_u64];omega
theorem CU (u v r:Nat):(((u+4294967296*v)/2^r%4294967296:Nat):Int)=((u:Int)+4294967296*v)/2^r%4294967296:=by
 have e:(((4294967296:Nat):Int))=4294967296:=rfl;have e2:(((2:Nat):Int))=2:=rfl;rw[Int.natCast_emod,Int.natCast_ediv,Int.natCast_pow,Int.natCast_add,Int.natCast_mul,e,e2]
theorem Ej (u r:Nat):(((u+4294967296*0)/2^r%4294967296:Nat):Int)=(u:Int)/2^r%4294967296:=by rw [CU];simp
theorem zh (y:Nat):((y:Int) != 0)=decide (y≠0):=by by_cases h:y=0 <;> simp [h]
theorem ym (r:Nat) (hr:r<32):((2:Int)^r-1)%4294967296=IntKind.u32.wrap (IntKind.u32.wrap (1*2^r)-1):=by
 have h1:(2:Nat)^r≤2^31:=dL r 31 (by omega);have hp:=Nat.two_pow_pos r;have e1:((2:Int)^r)=((2^r:Nat):Int):=by push_cast;rfl
 rw[Int.one_mul,e1];generalize (2:Nat)^r=p at *;rw[IntKind.wrap_u32,IntKind.wrap_u32];omega
theorem tU (s:Value) (N:Nat) (k:Nat) (w:World) (hs:Rd w s (dg N)) (hx:(dg N).length≤1000000) (hk:k≤1000000) :
  Calls Tryz.prog 110 #[s,.int .i64 k] w fun e w'=>(∃ s',e = .returned (.tuple #[s',.bool (vV N k)])∧Rd w' s' (dg (N/2^k)))∧Below w.heap.size w w':=by
 obtain⟨i0,hi,hz0,hz1,hz2⟩:=info_parts eo;have hNl:=rs N;have hX0:Hid (∀ i,(dg N).getD i 0=N/4294967296^i%4294967296):=fun i=>jk N i
 have HE:Hid ((dg N).length=0↔N=0):=by
  show _↔_;rw[List.length_eq_zero_iff,d6]
 obtain⟨q,hq⟩:∃ q,q=k/32:=⟨_,rfl⟩;obtain⟨r,hr⟩:∃ r,r=k%32:=⟨_,rfl⟩;have hr32:r<32:=by omega
 have hq2:q≤1000000:=by omega
 have hsp:Hid (4294967296^q*2^r=2^k):=by rw[hq,hr];exact iT k
 have tq:(k:Int).tdiv 32=(q:Int):=by rw[Int.tdiv_eq_ediv_of_nonneg (by omega)];omega
 have tr:(k:Int).tmod 32=(r:Int):=by rw[Int.tmod_eq_emod_of_nonneg (by omega)];omega
 by_cases hge:32*(dg N).length≤k
 · have hlt : N < 2 ^ k := by
     refine Nat.lt_of_lt_of_le hNl ?_;rw[show(4294967296:Nat)=2^32 from rfl,← Nat.pow_mul];exact dL _ _ hge
   have E1:Hid (N/2^k=0):=Nat.div_eq_of_lt hlt
   have E2:Hid (vV N k=decide (0<(dg N).length)):=by
    show _=_;unfold vV;rw[Nat.mod_eq_of_lt hlt,decide_eq_decide];have:=HE.out;omega
   obtain⟨A,ca,rfl⟩:=hs.form;obtain⟨n,hn⟩:∃ n,(dg N).length=n:=⟨_,rfl⟩;rw[hn] at E2 hx hge ⊢;clear hs hX0 hNl hq hr tq tr HE hlt hn;have w1:(32:Int)*n≤k:=by omega
   go_enter Tryz.func110,Tryz.ntmps110;go_wp2_with fail;go_ret2
   exact⟨⟨_,by rw[E2.out];rfl,by rw[E1.out,bp];exact Rd.nil _⟩,Below.refl _ _⟩
 ·obtain⟨hd,⟨rfl,h0⟩|⟨b,o,cap,rfl,h1,h2,h3,h4⟩⟩:=hs
  ·exfalso;rw[h0] at hge;exact hge (Nat.zero_le _)
  have RX:Hid (∀ i,i<(dg N).length→w.cell? ⟨b,o+i,none⟩=some (.int .u32 ((N/4294967296^i%4294967296:Nat):Int))):=fun i hi=>by
   have:=h4 i hi;rwa [show(dg N)[i]=N/4294967296^i%4294967296 from by rw[← hX0.out];simp[List.getD,hi]] at this
  have XH:Hid (∀ i,(dg N).length≤i→N/4294967296^i%4294967296=0):=fun i hi=>by rw[← hX0.out,pI _ _ hi]
  clear h4 hd HE hX0;obtain⟨n,hn⟩:∃ n,(dg N).length=n:=⟨_,rfl⟩;have hm:=run_make_row (P:=Tryz.prog) 50 125 i0 (.int .u32 0) Tryz.underlying50 hi hz0 hz1 rfl .i64 .i64 (n-q) (by rw[hz2];omega) (by omega);rw[hn] at RX XH h1 hx hge hNl ⊢;clear hn;have hqn:q<n:=by omega
  obtain⟨m,hmn⟩:∃ m,n-q=m:=⟨_,rfl⟩;rw[hmn] at hm;obtain rfl:n=q+m:=by omega
  have HNL:=Lh hNl;have g1:¬ (32*((q:Int)+m)≤k):=by omega
  have g2:(q:Int)≤(q:Int)+m:=by omega
  have g3:(0:Int)≤(q:Int):=by omega
  have g4:q≤cap:=by omega
  have g5:(q:Int)≤(cap:Int):=by omega
  have g6:(q:Int)+m≤(cap:Int):=by omega
  clear hge hq hr hmn hNl;go_enter Tryz.func110,Tryz.ntmps110;go_wp2_with fail;clear g1 g2 g6;go_loopw [6,26] (fun t6 t26 wr=>∃ i:Nat,i≤q∧t26 = .int .i64 i∧t6 = .bool (goneD N i)∧w=wr) (fun _ t26 _=>q-(intOf t26).toNat)
  case atStart=>exact⟨0,Nat.zero_le _,rfl,by rw[sX],rfl⟩
  case round =>
   obtain⟨i,hiq,rfl,rfl,rfl⟩:=hrel;by_cases hlt:i<q
   ·have cA:=RX.out i (by omega);have k0:(0:Int)≤(i:Int):=by omega
    have k1:(i:Int)<(q:Int):=by omega
    obtain⟨x,hx1⟩:∃ x,N/4294967296^i%4294967296=x:=⟨_,rfl⟩;have HG:=Lh (sY N i x hx1);rw[hx1] at cA;clear hx1;obtain⟨L,hL⟩:∃ L,goneD N i=L:=⟨_,rfl⟩;rw[hL] at HG ⊢;clear hL;by_cases hx0:x=0
    ·subst hx0;cases L
     ·go_wp2_with fail;exact⟨⟨i+1,by omega,by first|rfl|go_num,by rw[HG.out];rfl,trivial⟩,by simp[intOf];omega⟩
     ·go_wp2_with fail;exact⟨⟨i+1,by omega,by first|rfl|go_num,by rw[HG.out];rfl,trivial⟩,by simp[intOf];omega⟩
    ·have hx1:¬ ((x:Int)=0):=by omega
     cases L
     ·go_wp2_with fail;exact⟨⟨i+1,by omega,by first|rfl|go_num,by rw[HG.out];simp[hx0],trivial⟩,by simp[intOf];omega⟩
     ·go_wp2_with fail;exact⟨⟨i+1,by omega,by first|rfl|go_num,by rw[HG.out];rfl,trivial⟩,by simp[intOf];omega⟩
   ·obtain rfl:i=q:=by omega
    have k1:¬ (i:Int)<(i:Int):=by omega
    have cA:=RX.out i (by omega);obtain⟨x,hx1⟩:∃ x,N/4294967296^i%4294967296=x:=⟨_,rfl⟩;have HG:=Lh (yx N i r x hr32 hx1 k hsp.out);have hxl:x<4294967296:=by rw[← hx1];exact Nat.mod_lt _ (by decide)
    rw[hx1] at cA
    have hal:bits .and .u32 (x:Int) ((2^r-1)%4294967296)=((x%2^r:Nat):Int):=by
     rw[← rL x r hxl hr32,ym r hr32]
    obtain⟨y,hy⟩:∃ y,x%2^r=y:=⟨_,rfl⟩;rw[hy] at hal HG;clear hx1 hy;have g7:(i:Int)≤(i:Int)+m:=by omega
    have g8:(i:Int)+m-i=m:=by omega
    have g9:i+m-i=m:=by omega
    have g10:(0:Int)<(m:Int):=by omega
    obtain⟨D,hD⟩:∃ D:Nat→Nat,D=fun j=>(N/4294967296^(i+j)%4294967296+4294967296*(N/4294967296^(i+j+1)%4294967296))/2^r%4294967296:=⟨_,rfl⟩;have HD:Hid (∀ j,D j=(N/4294967296^(i+j)%4294967296+4294967296*(N/4294967296^(i+j+1)%4294967296))/2^r%4294967296):=fun j=>by rw[hD]
    have HQ:Hid (nvf D m=N/2^k):=by
     show _=_;have:=vq N i r (i+m) HNL.out (by omega) hr32 D (fun j _=>HD.out j);rwa [show i+m-i=m by omega,hsp.out] at this
    clear hD;obtain⟨L,hL⟩:∃ L,goneD N i=L:=⟨_,rfl⟩;rw[hL] at HG ⊢;clear hL;have HM:=Lh hm;clear hlt
    cases L <;> (
     go_wp2_with fail;clear hm hal g8 g9;have hr0:=Lh (World.rowIs_made w (.int .u32 0) m 125);go_loopw [59] (fun t59 wr=>∃ j:Nat,j≤m∧t59 = .int .i64 j∧Hid (wr.rowIs w.heap.size 125 m (fun p => .int .u32 ((if p<j then D p else 0:Nat):Int)))∧Hid (Below w.heap.size w wr)) (fun t59 _=>m-(intOf t59).toNat)
     case atStart=>exact⟨0,Nat.zero_le _,rfl,hr0.out.congr (fun i _=>by simp),ae⟩
     case round =>
      obtain⟨j,hj,rfl,HR,HB⟩:=hrel;have hbs:=HB.out.size;by_cases hjm:j<m
      ·have cB:=(HB.out.cell (p:=⟨b,o+(i+j),none⟩) h3).trans (RX.out (i+j) (by omega));rw[← Nat.add_assoc] at cB;have hd1:=HD.out j;have hck:=HR.out.cell hjm;have hfk:=HR.out.frozen;have nb:¬ b=w.heap.size:=by omega
       have k0:(0:Int)≤(j:Int):=by omega
       have k1:(j:Int)<(m:Int):=by omega
       have HST:Hid (∀ v:Nat,v=D j→(wr.setCell ⟨w.heap.size,j,none⟩ (.int .u32 (v:Int))).rowIs w.heap.size 125 m (fun p => .int .u32 ((if p<j+1 then D p else 0:Nat):Int))∧Below w.heap.size w (wr.setCell ⟨w.heap.size,j,none⟩ (.int .u32 (v:Int)))):=fun v hv=>by
        refine⟨(HR.out.set j _).congr (fun p _=>?_),HB.out.setCell (Nat.le_refl _) _⟩;by_cases e:p=j
        ·subst e;rw[if_pos rfl,if_pos (Nat.lt_succ_self _),hv]
        ·rw[if_neg e];by_cases e2:p<j
         ·rw[if_pos e2,if_pos (by omega)]
         ·rw[if_neg e2,if_neg (by omega)]
       obtain⟨u,hu⟩:∃ u,N/4294967296^(i+j)%4294967296=u:=⟨_,rfl⟩;have hul:u<4294967296:=by rw[← hu];exact Nat.mod_lt _ (by decide)
       rw[hu] at cB hd1;by_cases hj1:j+1<m
       ·have cC:=(HB.out.cell (p:=⟨b,o+(i+(j+1)),none⟩) h3).trans (RX.out (i+(j+1)) (by omega));rw[← Nat.add_assoc] at cC;rw[← Nat.add_assoc i j 1] at cC;obtain⟨v,hv⟩:∃ v,N/4294967296^(i+j+1)%4294967296=v:=⟨_,rfl⟩;have hvl:v<4294967296:=by rw[← hv];exact Nat.mod_lt _ (by decide)
        rw[hv] at cC hd1;have k2:(j:Int)+1<(m:Int):=by omega
        have k3:(0:Int)≤(j:Int)+1:=by omega
        have ho:=kj u v hul hvl;rw[show IntKind.u64.wrap ((v:Int)*4294967296)=(v:Int)*4294967296 by rw[IntKind.wrap_u64];omega] at ho;have hsv:=HST.out _ hd1.symm;rw[CU] at hsv;have HSV:=Lh hsv;clear hu hv hd1 HST hsv;go_wp2_with fail;exact⟨⟨j+1,by omega,by first|rfl|go_num,HSV.out.1,HSV.out.2⟩,by simp[intOf];omega⟩
       ·have hv:N/4294967296^(i+j+1)%4294967296=0:=XH.out _ (by omega);rw[hv] at hd1;have k2:¬ (j:Int)+1<(m:Int):=by omega
        have hsv:=HST.out _ hd1.symm;rw[Ej] at hsv;have HSV:=Lh hsv;clear hu hv hd1 HST hsv;go_wp2_with fail;exact⟨⟨j+1,by omega,by first|rfl|go_num,HSV.out.1,HSV.out.2⟩,by simp[intOf];omega⟩
      ·obtain rfl:j=m:=by omega
       have k1:¬ (j:Int)<(j:Int):=by omega
       have hrd:=Lh (Rd.row HR.out (by omega) (fun p hp=>by rw[if_pos hp,HD.out];exact Nat.mod_lt _ (by decide)))
       have hval:Hid (nv ((List.range j).map (fun p=>if p<j then D p else 0))=N/2^k):=by
        show _=_;rw[dN,et (g:=D) j (fun p hp=>if_pos hp)];exact HQ.out
       go_wp2_with fail;refine(ev _ _ _ hrd.out).mono ?_;rintro e w1 ⟨⟨s',rfl,hs'⟩,rfl⟩;have hs2:=Lh (hs' _ hrd.out);clear hs';go_wp2_with fail;go_ret2
       exact⟨⟨_,by rw[HG.out];first|rfl|exact congrArg _ (by first|rfl|(rw[Bool.false_or,← zh];rfl)),by have:=hs2.out;rwa [hval.out] at this⟩,HB.out⟩)
open Go.RowKit

structure aU where
 holds:World→Value→Prop
 stable:∀ {w w':World} {v:Value},holds w v→Below w.heap.size w w'→holds w' v
 own:Value→Option Nat:=fun _=>none
 lt:∀ {w:World} {v:Value} {b:Nat},holds w v→own v=some b→b<w.heap.size:=by intro _ _ _ _ h;cases h
def dD (P:Program) (f:aU) (w:World):Result Next→Prop
 | .ok (.value v) w'=>f.holds w' v∧Below w.heap.size w w'∧∀ b,f.own v=some b→w.heap.size≤b
 | .ok (.enter fn args) w'=>w'=w∧Calls P fn args w (fun e w''=>∃ v,e = .returned v∧f.holds w'' v∧Below w.heap.size w w''∧∀ b,f.own v=some b→w.heap.size≤b)
 | _=>False
structure Inh (w0:World) (fr:Nat→Option aU) (g:Nat→Value) (N:List Nat) where
 w:World
 low:Below w0.heap.size w0 w
 has:∀ j ∈ N,∀ f,fr j=some f→f.holds w (g j)
theorem Inh.step {w0:World} {fr:Nat→Option aU} {g:Nat→Value} {N:List Nat} (p:Inh w0 fr g N) {w':World} (h:Below p.w.heap.size p.w w'):∃ p':Inh w0 fr g N,w'=p'.w:=by
 refine⟨⟨w',⟨h.os.trans p.low.os,h.tape.trans p.low.tape,h.output.trans p.low.output,Nat.le_trans p.low.size h.size,fun k hk=>?_⟩,fun j hj f hf=>?_⟩,rfl⟩
 ·rw[h.block k (Nat.lt_of_lt_of_le hk p.low.size)];exact p.low.block k hk
 ·exact f.stable (p.has j hj f hf) h
theorem bE {P:Program} {f:FuncId} {args:Array Value} {w0:World} {fr:Nat→Option aU} {g:Nat→Value} {N:List Nat} {p:Inh w0 fr g N} {v:Value}
  (h:Calls P f args p.w fun e w'=>e = .returned v∧Below p.w.heap.size p.w w'):Calls P f args p.w fun e w''=>e = .returned v∧∃ p':Inh w0 fr g N,w''=p'.w :=
 h.mono fun _ _ ⟨he,hb⟩=>⟨he,p.step hb⟩
def rk (dst:Option Tmp) (a:Act):Value:=match dst with|some d=>a.tmps.getD d undef|none=>undef
def eB (P:Program) (ops:Array Oper) (w0:World) (fr:Nat→Option aU) (needs:Nat→List Nat) (vals:List Value) (g:Nat→Value) (Q:Act→Prop):List Oper→Nat→Act→Prop
 | [],_,a=>Q a
 | o :: rest,k,a =>
  match fr k with
  | some f=>Region.wanted o (yielded ops a.tmps)=true∧(∀ p:Inh w0 fr g (needs k),dD P f p.w ((execOp a.eval o).run P p.w))∧eB P ops w0 fr needs vals g Q rest (k+1) (a.put o.dst (g k))
  | none=>wpQuiet P ops (fun w'=>∃ p:Inh w0 fr g (needs k),w'=p.w) (fun a'=>rk o.dst a'=vals.getD k undef∧eB P ops w0 fr needs vals g Q rest (k+1) a') [o] a
section
variable {P:Program} {ops:Array Oper} {w0:World} {fr:Nat→Option aU} {needs:Nat→List Nat} {vals:List Value} {g:Nat→Value} {Q:Act→Prop}

theorem aM {k:Nat} {a:Act} (h:Q a):eB P ops w0 fr needs vals g Q [] k a:=h
theorem aj {o:Oper} {rest:List Oper} {k:Nat} {a:Act} (hk:fr k=none)
  (h:wpQuiet P ops (fun w'=>∃ p:Inh w0 fr g (needs k),w'=p.w) (fun a'=>rk o.dst a'=vals.getD k undef∧eB P ops w0 fr needs vals g Q rest (k+1) a') [o] a) :
  eB P ops w0 fr needs vals g Q (o :: rest) k a:=by
 unfold eB;rw[hk];exact h
theorem ag {o:Oper} {rest:List Oper} {k:Nat} {a:Act} (f:aU) (hk:fr k=some f) (hw:Region.wanted o (yielded ops a.tmps)=true)
  (hr:∀ p:Inh w0 fr g (needs k),dD P f p.w ((execOp a.eval o).run P p.w)) (h:eB P ops w0 fr needs vals g Q rest (k+1) (a.put o.dst (g k))) :
  eB P ops w0 fr needs vals g Q (o :: rest) k a:=by
 unfold eB;rw[hk];exact⟨hw,hr,h⟩
def iP (fr:Nat→Option aU) (vals:List Value) (g:Nat→Value) (k:Nat):Value:=match fr k with|some _=>g k|none=>vals.getD k undef
def actH (fr:Nat→Option aU) (vals:List Value) (g:Nat→Value):List Oper→Nat→Act→Act
 | [],_,a=>a
 | o :: rest,k,a=>actH fr vals g rest (k+1) (a.put o.dst (iP fr vals g k))
theorem vy (a:Act) (dst:Option Tmp) (v u:Value) (h:rk dst (a.put dst v)=u):a.put dst v=a.put dst u:=by
 cases dst with
 | none=>rfl
 | some d =>
  simp only[rk,Act.put] at h ⊢;by_cases hd:d<a.tmps.size
  ·simp[hd] at h;rw[h]
  ·congr 1
   apply Array.ext_getElem?;intro i;by_cases hi:d=i
   ·subst hi;simp[hd]
   ·simp[hi]
theorem fM:∀ (l:List Oper) (k:Nat) (a:Act),eB P ops w0 fr needs vals g Q l k a →
  Q (actH fr vals g l k a)∧∀ j o,l[j]? = some o →
   match fr (k+j) with
   | some f=>Region.wanted o (yielded ops (actH fr vals g (l.take j) k a).tmps)=true∧∀ p:Inh w0 fr g (needs (k+j)),dD P f p.w ((execOp (actH fr vals g (l.take j) k a).eval o).run P p.w)
   | none=>∃ v,(actH fr vals g (l.take j) k a).put o.dst v=(actH fr vals g (l.take j) k a).put o.dst (iP fr vals g (k+j))∧YieldsIn P ops (fun w'=>∃ p:Inh w0 fr g (needs (k+j)),w'=p.w) o v (actH fr vals g (l.take j) k a)
 | [],k,a,h=>⟨h,fun j o ho=>by simp at ho⟩
 | o :: l,k,a,h=>by
  unfold eB at h
  cases hf:fr k with
  | some f =>
   rw[hf] at h
   obtain⟨hw,hr,h⟩:=h
   have hv:iP fr vals g k=g k:=by unfold iP;rw[hf]
   obtain⟨h1,h2⟩:=fM l (k+1) _ h
   refine⟨by unfold actH;rw[hv];exact h1,fun j o' ho'=>?_⟩
   rcases j with _|j
   ·obtain rfl:o=o':=by simpa using ho'
    simp only[Nat.add_zero,hf,List.take_zero,actH]
    exact⟨hw,hr⟩
   ·have:=h2 j o' (by simpa using ho')
    rw[show k+1+j=k+(j+1) by omega] at this
    simp only[List.take_succ_cons,actH,hv]
    exact this
  | none =>
   rw[hf] at h
   simp only[wpQuiet] at h
   have key:∃ v,YieldsIn P ops (fun w'=>∃ p:Inh w0 fr g (needs k),w'=p.w) o v a∧rk o.dst (a.put o.dst v)=vals.getD k undef∧eB P ops w0 fr needs vals g Q l (k+1) (a.put o.dst v):=by
    by_cases hw:Region.wanted o (yielded ops a.tmps)=true
    ·rw[if_pos hw] at h;obtain⟨v,h1,h2,h3⟩:=h;exact⟨v,.inl ⟨hw,h1⟩,h2,h3⟩
    ·rw[if_neg hw] at h;exact⟨undef,.inr ⟨by simpa using hw,rfl⟩,h⟩
   obtain⟨v,hy,hd,hl⟩:=key;have hv:iP fr vals g k=vals.getD k undef:=by unfold iP;rw[hf]
   have he:=vy a o.dst v _ hd;rw[← hv] at he;rw[he] at hl;obtain⟨h1,h2⟩:=fM l (k+1) _ hl;refine⟨by unfold actH;exact h1,fun j o' ho'=>?_⟩;rcases j with _|j
   ·obtain rfl:o=o':=by simpa using ho'
    simp only[Nat.add_zero,hf,List.take_zero,actH];exact⟨v,he,hy⟩
   ·have:=h2 j o' (by simpa using ho');rw[show k+1+j=k+(j+1) by omega] at this;simp only[List.take_succ_cons,actH];exact this
/-! ### What stands in the slots -/
structure bQ (ops:Array Oper) (fr:Nat→Option aU) (vals:List Value) (g:Nat→Value) (n:Nat) (a0:Act) (L:Nat→Prop) (a:Act):Prop where
 defers:a.defers=a0.defers
 size:a.tmps.size=a0.tmps.size
 done:∀ k o d,k<n→ops[k]? = some o→L k→o.dst=some d→d<a0.tmps.size→a.tmps[d]? = some (iP fr vals g k)
 rest:∀ d,(∀ k o,k<n→ops[k]? = some o→L k→o.dst≠some d)→a.tmps[d]? = a0.tmps[d]?
def uE (ops:Array Oper) (n:Nat):Bool :=
 (List.range n).all fun i=>(List.range i).all fun j=>match ops[i]?,ops[j]? with
  | some x,some y=>x.dst.isNone||x.dst != y.dst
  | _,_=>true
theorem tv {n:Nat} (h:uE ops n=true) {i j:Nat} {x y:Oper} (hi:i<n) (hj:j<n) (hne:i≠j) (hx:ops[i]? = some x) (hy:ops[j]? = some y) {d:Tmp} (h1:x.dst=some d) (h2:y.dst=some d):False:=by
 rcases Nat.lt_or_ge j i with hlt|hge
 ·have:=List.all_eq_true.1 (List.all_eq_true.1 h i (List.mem_range.2 hi)) j (List.mem_range.2 hlt);simp[hx,hy,h1,h2] at this
 ·have hlt:i<j:=by omega
  have:=List.all_eq_true.1 (List.all_eq_true.1 h j (List.mem_range.2 hj)) i (List.mem_range.2 hlt);simp[hx,hy,h1,h2] at this
theorem bQ.put {n:Nat} {a0 a:Act} {L L':Nat→Prop} (h:bQ ops fr vals g n a0 L a) (hB:uE ops n=true) {i:Nat} {o:Oper} (hi:i<n) (ho:ops[i]? = some o) (hL:∀ k,L' k↔(L k∨k=i)) (hn:¬ L i) :
  bQ ops fr vals g n a0 L' (a.put o.dst (iP fr vals g i)):=by
 refine⟨?_,?_,?_,?_⟩
 ·cases o.dst <;> exact h.defers
 ·cases hd:o.dst with
  | none=>exact h.size
  | some d=>simp only[Act.put,Array.size_setIfInBounds];exact h.size
 ·intro k x d hk hx hLk hd hlt;by_cases hki:k=i
  ·subst hki;obtain rfl:o=x:=Option.some.inj (ho.symm.trans hx);rw[hd];simp only[Act.put];rw[Array.getElem?_setIfInBounds_self_of_lt (by rw[h.size];exact hlt)]
  ·have hLk':L k:=by rcases(hL k).1 hLk with h'|h';exact h';exact absurd h' hki
   have:=h.done k x d hk hx hLk' hd hlt;cases hod:o.dst with
   | none=>exact this
   | some d' =>
    have hne:d'≠d:=fun e=>tv hB hk hi hki hx ho hd (by rw[hod,e]);simp only[Act.put];rw[Array.getElem?_setIfInBounds_ne hne];exact this
 ·intro d hd;have h1:=h.rest d fun k x hk hx hLk=>hd k x hk hx ((hL k).2 (.inl hLk));cases hod:o.dst with
  | none=>exact h1
  | some d' =>
   have hne:d'≠d:=fun e=>hd i o hi ho ((hL i).2 (.inr rfl)) (by rw[hod,e]);simp only[Act.put];rw[Array.getElem?_setIfInBounds_ne hne];exact h1
theorem bQ.nil {n:Nat} {a0:Act} {L:Nat→Prop} (hL:∀ k,k<n→¬ L k):bQ ops fr vals g n a0 L a0 :=
 ⟨rfl,rfl,fun k _ _ hk _ hLk _ _=>absurd hLk (hL k hk),fun _ _=>rfl⟩
theorem bQ.congr {n:Nat} {a0 a:Act} {L L':Nat→Prop} (h:bQ ops fr vals g n a0 L a) (hL:∀ k,k<n→(L' k↔L k)):bQ ops fr vals g n a0 L' a :=
 ⟨h.defers,h.size,fun k o d hk ho hLk hd hlt=>h.done k o d hk ho ((hL k hk).1 hLk) hd hlt,fun d hd=>h.rest d fun k o hk ho hLk=>hd k o hk ho ((hL k hk).2 hLk)⟩
theorem bQ.turn {n:Nat} {a0 a:Act} {L:Nat→Prop} {g':Nat→Value} (h:bQ ops fr vals g n a0 L a) (hg:∀ k,k<n→L k→g' k=g k):bQ ops fr vals g' n a0 L a :=
 ⟨h.defers,h.size,fun k o d hk ho hLk hd hlt=>by
  rw[h.done k o d hk ho hLk hd hlt];unfold iP;rw[hg k hk hLk],h.rest⟩
theorem iF {n:Nat} {a0:Act} (hB:uE ops n=true):∀ (l:List Oper) (k:Nat) (a:Act),(∀ j,j<l.length→l[j]? = ops[k+j]?)→k+l.length≤n→bQ ops fr vals g n a0 (fun j=>j<k) a →
  bQ ops fr vals g n a0 (fun j=>j<k+l.length) (actH fr vals g l k a)
 | [],k,a,_,_,h=>h
 | o :: l,k,a,hl,hn,h=>by
  have h0:ops[k]? = some o:=by simpa using(hl 0 (by simp)).symm
  simp only[List.length_cons] at hn
  have h1:bQ ops fr vals g n a0 (fun j=>j<k+1) (a.put o.dst (iP fr vals g k)):=h.put hB (by omega) h0 (fun j=>by omega) (by omega)
  have h2:=iF hB l (k+1) _ (fun j hj=>by
   have:=hl (j+1) (by simp;omega)
   rw[show k+1+j=k+(j+1) by omega];simpa using this) (by omega) h1
  unfold actH
  exact h2.congr fun j _=>by simp only[List.length_cons];omega
theorem bQ.same {n:Nat} {a0 a a':Act} {L:Nat→Prop} (h:bQ ops fr vals g n a0 L a) (h':bQ ops fr vals g n a0 L a'):a=a':=by
 have hd:=h.defers.trans h'.defers.symm
 have ht:a.tmps=a'.tmps:=by
  apply Array.ext_getElem?;intro d;by_cases hex:∃ k o,k<n∧ops[k]? = some o∧L k∧o.dst=some d
  ·obtain⟨k,o,hk,ho,hL,hod⟩:=hex;by_cases hlt:d<a0.tmps.size
   ·rw[h.done k o d hk ho hL hod hlt,h'.done k o d hk ho hL hod hlt]
   ·have n1:a.tmps.size≤d:=by rw[h.size];exact Nat.le_of_not_lt hlt
    have n2:a'.tmps.size≤d:=by rw[h'.size];exact Nat.le_of_not_lt hlt
    rw[Array.getElem?_eq_none n1,Array.getElem?_eq_none n2]
  ·have hno:∀ k o,k<n→ops[k]? = some o→L k→o.dst≠some d:=fun k o hk ho hL hod=>hex ⟨k,o,hk,ho,hL,hod⟩;rw[h.rest d hno,h'.rest d hno]
 obtain⟨t,df⟩:=a;obtain⟨t',df'⟩:=a';simp only at ht hd;rw[ht,hd]
theorem bQ.alike {n:Nat} {a0 a a':Act} {L L':Nat→Prop} (h:bQ ops fr vals g n a0 L a) (h':bQ ops fr vals g n a0 L' a') {o:Oper}
  (hl:∀ d,d ∈ o.looksAt ops→∀ k x,k<n→ops[k]? = some x→x.dst=some d→(L k∧L' k)):∀ d,d ∈ o.looksAt ops→a.tmps[d]? = a'.tmps[d]?:=by
 intro d hd;by_cases hex:∃ k x,k<n∧ops[k]? = some x∧x.dst=some d
 ·obtain⟨k,x,hk,hx,hxd⟩:=hex;obtain⟨l1,l2⟩:=hl d hd k x hk hx hxd;by_cases hlt:d<a0.tmps.size
  ·rw[h.done k x d hk hx l1 hxd hlt,h'.done k x d hk hx l2 hxd hlt]
  ·have n1:a.tmps.size≤d:=by rw[h.size];exact Nat.le_of_not_lt hlt
   have n2:a'.tmps.size≤d:=by rw[h'.size];exact Nat.le_of_not_lt hlt
   rw[Array.getElem?_eq_none n1,Array.getElem?_eq_none n2]
 ·rw[h.rest d fun k x hk hx _ hxd=>hex ⟨k,x,hk,hx,hxd⟩,h'.rest d fun k x hk hx _ hxd=>hex ⟨k,x,hk,hx,hxd⟩]
theorem ri {o:Oper} (hs:∀ cs b,o.op ≠ .select cs b) {a a':Act} (h:∀ d,d ∈ o.looksAt ops→a.tmps[d]? = a'.tmps[d]?):execOp a.eval o=execOp a'.eval o :=
 execOp_congr o hs fun x hx=>by
  cases x with
  | tmp t =>
   have:=h t (List.mem_append_left _ (List.mem_filterMap.2 ⟨.tmp t,by simpa using hx,rfl⟩))
   simp[Act.eval,this]
  | _=>rfl
theorem mX {o:Oper} {a a':Act} (h:∀ d,d ∈ o.looksAt ops→a.tmps[d]? = a'.tmps[d]?):Region.wanted o (yielded ops a.tmps)=Region.wanted o (yielded ops a'.tmps):=by
 unfold Region.wanted;cases hg:o.guard with
 | none=>rfl
 | some gw =>
  obtain⟨k,want⟩:=gw
  have hy:yielded ops a.tmps k=yielded ops a'.tmps k:=by
   unfold yielded;cases ht:(ops[k]?).bind (·.dst) with
   | none=>rfl
   | some t =>
    have:=h t (by simp[Oper.looksAt,hg,ht]);simp[this]
  simp only[hy]
/-! ### Any order -/
def wU (ops:Array Oper) (needs:Nat→List Nat) (n:Nat):Bool :=
 (List.range n).all fun k=>match ops[k]? with
  | none=>false
  | some o => (o.looksAt ops).all (fun d => (List.range n).all fun j => match ops[j]? with
      | some x=>x.dst != some d||Region.waitsFor .any ops k j
      | none=>true)&&(needs k).all (fun j=>Region.waitsFor .any ops k j)&&o.after.all (fun e=>!Region.binds .any e||decide (e.on<k))
def iI (n m:Nat):Array Bool:=((List.range m).map fun k=>decide (k<n)).toArray
def gq (ops:Array Oper) (needs:Nat→List Nat) (n:Nat):Bool :=
 Region.noSelect ops&&decide (n≤ops.size)&&(decide (ops.size≤n)||Region.sinkB .any ops n&&Region.chainB .any ops n)&&uE ops n&&wU ops needs n&&Region.seqB .any ops (ops.size-n) n (iI n ops.size)
theorem jU {n:Nat} (h:wU ops needs n=true) {k:Nat} {o:Oper} (hk:k<n) (ho:ops[k]? = some o) :
  (∀ d ∈ o.looksAt ops,∀ j x,j<n→ops[j]? = some x→x.dst=some d→Region.waitsFor .any ops k j=true)∧(∀ j ∈ needs k,Region.waitsFor .any ops k j=true)∧(∀ e ∈ o.after,Region.binds .any e=true→e.on<k):=by
 have:=List.all_eq_true.1 h k (List.mem_range.2 hk);simp only[ho,Bool.and_eq_true] at this;obtain⟨⟨h1,h2⟩,h3⟩:=this;refine⟨fun d hd j x hj hx hxd=>?_,fun j hj=>List.all_eq_true.1 h2 j hj,fun e he hb=>?_⟩
 ·have:=List.all_eq_true.1 (List.all_eq_true.1 h1 d hd) j (List.mem_range.2 hj);simp only[hx,hxd,bne_self_eq_false,Bool.false_or] at this;exact this
 ·have:=Array.all_eq_true_iff_forall_mem.1 h3 e he;simpa [hb] using this
structure Et (ops:Array Oper) (w0:World) (fr:Nat→Option aU) (vals:List Value) (n:Nat) (a0:Act) (listed:Array Bool) (g:Nat→Value) (a:Act) (w:World):Prop where
 head:HeadInv .any ops n listed
 low:Below w0.heap.size w0 w
 has:∀ k f,k<n→listed.getD k false=true→fr k=some f→f.holds w (g k)
 diff:∀ k k' f f' b b',k<n→k'<n→listed.getD k false=true→listed.getD k' false=true→fr k=some f→fr k'=some f'→k≠k'→f.own (g k)=some b→f'.own (g k')=some b'→b≠b'
 frame:bQ ops fr vals g n a0 (fun k=>listed.getD k false=true) a
theorem getD_set_iffH {listed:Array Bool} {i k:Nat} (hi:i<listed.size):(listed.setIfInBounds i true).getD k false=true↔(listed.getD k false=true∨k=i):=by
 by_cases h:i=k
 ·subst h;simp[hi]
 ·rw[getD_set_ne false h];constructor
  ·exact .inl
  ·rintro(h1|h1)
   ·exact h1
   ·exact absurd h1.symm h
theorem uZ {n:Nat} {a0:Act} {listed:Array Bool} {g:Nat→Value} {a:Act} {w:World} (hB:gq ops needs n=true) {l:List Oper} (hl:l=ops.toList.take n)
  (H:∀ g (N:Nat→List Nat),(∀ k,∀ j ∈ needs k,j ∈ N k)→eB P ops w0 fr N vals g (fun _=>True) l 0 a0) (h:Et ops w0 fr vals n a0 listed g a w) {i:Nat} (hi:i<n) (hr:i ∈ Region.ready .any ops listed) {Q':Exit→Act→World→Prop} {K:Act→World→Prop}
  (hK:∀ g' a' w',Et ops w0 fr vals n a0 (listed.setIfInBounds i true) g' a' w'→K a' w'):wpOp P ops Q' i K a w:=by
 simp only[gq,Bool.and_eq_true,decide_eq_true_eq] at hB;obtain⟨⟨⟨⟨⟨hsel,hn⟩,htl⟩,hdst⟩,hwait⟩,hseq⟩:=hB;obtain⟨hun,o,ho,hall⟩:=mem_ready.1 hr
 have hlo:l[i]? = some o:=by
  rw[hl];simp[hi,ho]
 have hisz:i<listed.size:=by rw[h.head.size];omega
 have hunl:¬ listed.getD i false=true:=by
  rw[getD_both hun];simp
 obtain⟨wt1,wt2,wt3⟩:=jU hwait hi ho
 have dep:∀ j,Region.waitsFor .any ops i j=true→listed.getD j false=true∧j<i:=by
  intro j hj;obtain⟨o',ho',e,he,hb,hon⟩:=Region.waitsFor_spec hj;have:o'=o:=Option.some.inj (ho'.symm.trans ho);subst this;rw[← hon];exact⟨hall e he hb,wt3 e he hb⟩
 have hA:∀ g,bQ ops fr vals g n a0 (fun k=>k<i) (actH fr vals g (l.take i) 0 a0):=by
  intro g;have hlen:(l.take i).length=i:=by rw[hl];simp;omega
  have:=iF (vals:=vals) (fr:=fr) (g:=g) (a0:=a0) hdst (l.take i) 0 a0 (fun j hj=>by
   rw[hlen] at hj;rw[hl];simp[hj,show j<n by omega]) (by omega) (bQ.nil fun k _=>by omega)
  rw[hlen] at this;exact this.congr fun j _=>by omega
 have hsl:=Region.noSelect_spec hsel;have alike:=h.frame.alike (hA g) (o:=o) (fun d hd k x hk hx hxd=>dep k (wt1 d hd k x hk hx hxd));have ex:=ri (hsl i o · · ho) alike;have wn:=mX alike;have steps:=(fM l 0 a0 (H g (fun k=>needs k++(List.range n).filter fun j=>listed.getD j false) (fun k j hj=>List.mem_append_left _ hj))).2 i o hlo;rw[Nat.zero_add] at steps;unfold wpOp;simp only[ho];cases hf:fr i with
 | some f =>
  rw[hf] at steps;obtain⟨hw,hrun⟩:=steps;rw[wn,if_pos hw];refine .inl ?_
  have hC:∃ p:Inh w0 fr g (needs i++(List.range n).filter fun j=>listed.getD j false),w=p.w:=⟨⟨w,h.low,fun j hj f hfj=>by
   rcases List.mem_append.1 hj with hj|hj
   ·have:=dep j (wt2 j hj);exact h.has j f (by omega) this.1 hfj
   ·have:=List.mem_filter.1 hj;exact h.has j f (List.mem_range.1 this.1) this.2 hfj⟩,rfl⟩
  obtain⟨p,hp⟩:=hC
  have nxt:∀ v w',f.holds w' v→Below w.heap.size w w'→(∀ b,f.own v=some b→w.heap.size≤b)→K (a.put o.dst v) w':=by
   intro v w' hv hb hown
   have hold:∀ k,k<n→listed.getD k false=true→(if k=i then v else g k)=g k:=fun k _ hk=>by
    rw[if_neg];intro e;subst e;exact hunl hk
   refine hK (fun k=>if k=i then v else g k) _ _ ⟨h.head.set hr hi,⟨hb.os.trans h.low.os,hb.tape.trans h.low.tape,hb.output.trans h.low.output,Nat.le_trans h.low.size hb.size,fun k hk=>?_⟩,?_,?_,?_⟩
   ·rw[hb.block k (Nat.lt_of_lt_of_le hk h.low.size)];exact h.low.block k hk
   ·intro k f' hk hlk hfk;rcases(getD_set_iffH hisz).1 hlk with h1|h1
    ·have:=h.has k f' hk h1 hfk;simp only[hold k hk h1];exact f'.stable this hb
    ·subst h1;simp only[if_true];rw[hf] at hfk;cases hfk;exact hv
   ·intro k k' f1 f2 b b' hk hk' hlk hlk' hf1 hf2 hne e1 e2;rcases(getD_set_iffH hisz).1 hlk with h1|h1 <;> rcases(getD_set_iffH hisz).1 hlk' with h2|h2
    ·simp only[hold k hk h1] at e1;simp only[hold k' hk' h2] at e2;exact h.diff k k' f1 f2 b b' hk hk' h1 h2 hf1 hf2 hne e1 e2
    ·subst h2;simp only[hold k hk h1] at e1;simp only[if_true] at e2;rw[hf] at hf2;cases hf2;have h3:=f1.lt (h.has k f1 hk h1 hf1) e1;have h4:=hown b' e2;omega
    ·subst h1;simp only[hold k' hk' h2] at e2;simp only[if_true] at e1;rw[hf] at hf1;cases hf1;have h3:=f2.lt (h.has k' f2 hk' h2 hf2) e2;have h4:=hown b e1;omega
    ·exact absurd (h1.trans h2.symm) hne
   ·have hturn:=h.frame.turn (g':=fun k=>if k=i then v else g k) (fun k hk hlk=>hold k hk hlk);have:=hturn.put (L':=fun k=>(listed.setIfInBounds i true).getD k false=true) hdst hi ho (fun k=>getD_set_iffH hisz) hunl;have hv:iP fr vals (fun k=>if k=i then v else g k) i=v:=by unfold iP;rw[hf];simp
    rwa [hv] at this
  have h3:=hrun p;rw[← hp] at h3;unfold Oper.wp;rw[ex];generalize (execOp (actH fr vals g (l.take i) 0 a0).eval o).run P w=r at *;cases r with
  | ok m w' =>
   cases m <;> simp only[dD] at h3 <;> simp only[Oper.upon]
   case value u=>exact nxt u w' h3.1 h3.2.1 h3.2.2
   case enter fn args =>
    obtain⟨e1,hc⟩:=h3;rw[e1];exact hc.mono fun e w'' ⟨v,he,hv,hb,ho⟩=>by subst he;exact nxt v w'' hv hb ho
  | halt x w'=>simp only[dD] at h3
 | none =>
  rw[hf] at steps;obtain⟨v,hput,hy⟩:=steps
  have hC:∃ p:Inh w0 fr g (needs i++(List.range n).filter fun j=>listed.getD j false),w=p.w:=⟨⟨w,h.low,fun j hj f hfj=>by
   rcases List.mem_append.1 hj with hj|hj
   ·have:=dep j (wt2 j hj);exact h.has j f (by omega) this.1 hfj
   ·have:=List.mem_filter.1 hj;exact h.has j f (List.mem_range.1 this.1) this.2 hfj⟩,rfl⟩
  have nxt:∀ p:Inh w0 fr g (needs i++(List.range n).filter fun j=>listed.getD j false),K (a.put o.dst v) p.w:=by
   intro p
   have he:a.put o.dst v=a.put o.dst (iP fr vals g i):=by
    cases hod:o.dst with
    | none=>rfl
    | some d =>
     by_cases hd:d<a0.tmps.size
     ·have e1:((actH fr vals g (l.take i) 0 a0).put o.dst v).tmps[d]? = ((actH fr vals g (l.take i) 0 a0).put o.dst (iP fr vals g i)).tmps[d]?:=by rw[hput]
      have hs:d<(actH fr vals g (l.take i) 0 a0).tmps.size:=by rw[(hA g).size];exact hd
      rw[hod] at e1;simp only[Act.put] at e1;rw[Array.getElem?_setIfInBounds_self_of_lt hs,Array.getElem?_setIfInBounds_self_of_lt hs] at e1;rw[Option.some.inj e1]
     ·have hs:¬ d<a.tmps.size:=by rw[h.frame.size];exact hd
      simp only[Act.put];congr 1
      apply Array.ext_getElem?;intro j;by_cases hj:d=j
      ·subst hj;simp[hs]
      ·rw[Array.getElem?_setIfInBounds_ne hj,Array.getElem?_setIfInBounds_ne hj]
   rw[he];refine hK g _ _ ⟨h.head.set hr hi,p.low,?_,?_,?_⟩
   ·intro k f' hk hlk hfk;rcases(getD_set_iffH hisz).1 hlk with h1|h1
    ·exact p.has k (List.mem_append_right _ (List.mem_filter.2 ⟨List.mem_range.2 hk,h1⟩)) f' hfk
    ·subst h1;rw[hf] at hfk;cases hfk
   ·intro k k' f1 f2 b b' hk hk' hlk hlk' hf1 hf2 hne e1 e2;rcases(getD_set_iffH hisz).1 hlk with h1|h1
    ·rcases(getD_set_iffH hisz).1 hlk' with h2|h2
     ·exact h.diff k k' f1 f2 b b' hk hk' h1 h2 hf1 hf2 hne e1 e2
     ·subst h2;rw[hf] at hf2;cases hf2
    ·subst h1;rw[hf] at hf1;cases hf1
   ·exact h.frame.put (L':=fun k=>(listed.setIfInBounds i true).getD k false=true) hdst hi ho (fun k=>getD_set_iffH hisz) hunl
  rcases hy with ⟨hw,hq⟩|⟨hw,rfl⟩
  ·rw[wn,if_pos hw];refine .inl ?_;have h3:=hq w hC;unfold Oper.quietAt at h3;unfold Oper.wp;rw[ex];generalize (execOp (actH fr vals g (l.take i) 0 a0).eval o).run P w=r at *;cases r with
   | ok m w' =>
    cases m <;> simp only[Oper.quietUpon] at h3 <;> simp only[Oper.upon]
    case value u =>
     obtain⟨e1,e2⟩:=h3;obtain⟨p,hp⟩:=hC;rw[e1,e2,hp];exact nxt p
    case skip =>
     obtain⟨e1,e2⟩:=h3;obtain⟨p,hp⟩:=hC;rw[e1,← e2,hp];exact nxt p
    case enter f args =>
     obtain⟨e1,hc⟩:=h3;rw[e1];exact hc.mono fun e w'' ⟨he,p,hp⟩=>by subst he;subst hp;exact nxt p
   | halt x w'=>simp only[Oper.quietUpon] at h3
  ·rw[wn,hw];simp only[Bool.false_eq_true,if_false];obtain⟨p,hp⟩:=hC;have:=nxt p;rwa [← hp] at this
theorem wj {n:Nat} {listed:Array Bool} (inv:HeadInv .any ops n listed) (hall:∀ k,k<n→listed.getD k false=true):listed=iI n ops.size:=by
 apply Array.ext_getElem?;intro k;have hs:(iI n ops.size).size=ops.size:=by simp[iI]
 by_cases hk:k<ops.size
 ·have e1:(iI n ops.size)[k]? = some (decide (k<n)):=by simp[iI,hk]
  rw[e1];have hks:k<listed.size:=by rw[inv.size];exact hk
  by_cases hkn:k<n
  ·have:=hall k hkn;simp[hks] at this;simp[hks,this,hkn]
  ·have:=inv.tail k (by omega) hk;simp[hks] at this;simp[hks,this,hkn]
 ·rw[Array.getElem?_eq_none (by rw[inv.size];omega),Array.getElem?_eq_none (by rw[hs];omega)]
def mC (n:Nat) (listed:Array Bool):Nat:=((List.range n).filter fun k=>!listed.getD k false).length
theorem vT {n i:Nat} {listed:Array Bool} (hi:i<n) (his:i<listed.size) (hun:listed.getD i false=false):mC n listed=mC n (listed.setIfInBounds i true)+1:=by
 unfold mC;induction n with
 | zero=>omega
 | succ n ih =>
  rw[List.range_succ,List.filter_append,List.filter_append,List.length_append,List.length_append];by_cases hin:i=n
  ·subst hin
   have e1:(List.range i).filter (fun k=>!listed.getD k false)=(List.range i).filter (fun k=>!(listed.setIfInBounds i true).getD k false):=by
    apply List.filter_congr;intro k hk;have:=List.mem_range.1 hk;rw[getD_set_ne false (by omega)]
   rw[e1];have e2:(listed.setIfInBounds i true).getD i false=true:=(getD_set_iffH his).2 (.inr rfl);simp only[List.filter_cons,List.filter_nil,hun,e2];rfl
  ·rw[ih (by omega)];have e3:(listed.setIfInBounds i true).getD n false=listed.getD n false:=getD_set_ne false hin;simp only[List.filter_cons,List.filter_nil,e3];omega
theorem zB {n:Nat} {a0:Act} {l:List Oper} (hB:gq ops needs n=true) (hl:l=ops.toList.take n) (H:∀ g (N:Nat→List Nat),(∀ k,∀ j ∈ needs k,j ∈ N k)→eB P ops w0 fr N vals g (fun _=>True) l 0 a0) {Q':Exit→Act→World→Prop}
  (fin:∀ g w,Below w0.heap.size w0 w→(∀ k f,k<n→fr k=some f→f.holds w (g k)) →
   (∀ k k' f f' b b',k<n→k'<n→fr k=some f→fr k'=some f'→k≠k'→f.own (g k)=some b→f'.own (g k')=some b'→b≠b') →
   wpList P ops Q' (ops.toList.drop n) (actH fr vals g l 0 a0) w) :
  ∀ (m:Nat) (listed:Array Bool) (g:Nat→Value) (a:Act) (w:World),mC n listed=m→Et ops w0 fr vals n a0 listed g a w→wpAny P .any ops Q' (m+(ops.size-n)) listed a w:=by
 have hB0:=hB;simp only[gq,Bool.and_eq_true,decide_eq_true_eq] at hB;obtain⟨⟨⟨⟨⟨hsel,hn⟩,htl⟩,hdst⟩,hwait⟩,hseq⟩:=hB;intro m;induction m with
 | zero =>
  intro listed g a w hm h
  have hall:∀ k,k<n→listed.getD k false=true:=by
   intro k hk;cases hc:listed.getD k false with
   | true=>rfl
   | false =>
    have hmem:k ∈ (List.range n).filter fun k=>!listed.getD k false:=List.mem_filter.2 ⟨List.mem_range.2 hk,by simp only[hc];rfl⟩;have:((List.range n).filter fun k=>!listed.getD k false) = []:=List.length_eq_zero_iff.1 hm;rw[this] at hmem;cases hmem
  have hlist:=wj h.head hall;have hlen:l.length=n:=by rw[hl];simp;omega
  have hA:bQ ops fr vals g n a0 (fun k=>k<n) (actH fr vals g l 0 a0):=by
   have:=iF (vals:=vals) (fr:=fr) (g:=g) (a0:=a0) hdst l 0 a0 (fun j hj=>by rw[hlen] at hj;rw[hl];simp[hj]) (by omega) (bQ.nil fun k _=>by omega);rw[hlen] at this;exact this.congr fun j _=>by omega
  have hae:a=actH fr vals g l 0 a0:=(h.frame.congr (L':=fun k=>k<n) fun k hk=>⟨fun _=>hall k hk,fun _=>hk⟩).same hA;rw[hlist,hae];have:=fin g w h.low (fun k f hk hf=>h.has k f hk (hall k hk) hf) (fun k k' f f' b b' hk hk' h1 h2=>h.diff k k' f f' b b' hk hk' (hall k hk) (hall k' hk') h1 h2);have hdl:(ops.toList.drop n).length=ops.size-n:=by simp
  have hw:=wpAny_of_seq (md := .any) (Q':=Q') (ops.toList.drop n) n (iI n ops.size) (actH fr vals g l 0 a0) w (fun j=>by simp[List.getElem?_drop]) (by rw[hdl];exact hseq) this;rw[hdl] at hw;rwa [Nat.zero_add]
 | succ m ih =>
  intro listed g a w hm h
  obtain⟨i0,hi0,hun0⟩:∃ i,i<n∧listed.getD i false=false:=by
   have hne:((List.range n).filter fun k=>!listed.getD k false) ≠ []:=by
    intro e;have:mC n listed=0:=by unfold mC;rw[e];rfl
    omega
   obtain⟨x,hx⟩:=List.exists_mem_of_ne_nil _ hne;have:=List.mem_filter.1 hx;exact⟨x,List.mem_range.1 this.1,by simpa using this.2⟩
  have hun0':=getD_in (by rw[h.head.size];omega) hun0
  have notail:∀ t,n≤t→t ∉ Region.ready .any ops listed:=by
   by_cases hne:ops.size≤n
   ·intro t ht hr;obtain⟨_,ot,hot,_⟩:=mem_ready.1 hr;have:=(Array.getElem?_eq_some_iff.1 hot).1;omega
   ·rw[decide_eq_false hne,Bool.false_or,Bool.and_eq_true] at htl;exact tail_waits htl.1 htl.2 (by omega) h.head _ i0 rfl hi0 hun0'
  -- the least that is not listed may come up
  have hex:∃ i,i<n∧i ∈ Region.ready .any ops listed:=by
   have:∀ d i,i=d→i<n→listed.getD i false=false→∃ i,i<n∧i ∈ Region.ready .any ops listed:=by
    intro d;induction d using Nat.strongRecOn with
    | _ d ihd =>
     intro i hid hin hui;have hio:i<ops.size:=by omega
     have ho:ops[i]? = some (ops[i]):=Array.getElem?_eq_getElem hio;by_cases hdeps:∀ e ∈ (ops[i]).after,Region.binds .any e=true→listed.getD e.on false=true
     ·exact⟨i,hin,mem_ready.2 ⟨getD_in (by rw[h.head.size];omega) hui,_,ho,hdeps⟩⟩
     · have hc : ∃ e, e ∈ (ops[i]).after ∧ Region.binds .any e = true ∧ listed.getD e.on false = false := by
         apply Classical.byContradiction;intro hno
         exact hdeps fun e he hb=>by
          cases hc:listed.getD e.on false with
          | true=>rfl
          | false=>exact absurd ⟨e,he,hb,hc⟩ hno
       obtain⟨e,he,hb,hue⟩:=hc;have hlt:=(jU hwait hin ho).2.2 e he hb;exact ihd e.on (by omega) e.on rfl (by omega) hue
   exact this i0 i0 rfl hi0 hun0
  obtain⟨i1,hi1,hr1⟩:=hex;rw[show m+1+(ops.size-n)=(m+(ops.size-n))+1 by omega];refine⟨fun h0=>(by rw[h0] at hr1;cases hr1),fun i hi=>?_⟩
  have hin:i<n:=by
   rcases Nat.lt_or_ge i n with h'|h'
   ·exact h'
   ·exact absurd hi (notail i h')
  have hui:=getD_both (mem_ready.1 hi).1;refine uZ hB0 hl H h hin hi fun g' a' w' h'=>ih _ g' a' w' ?_ h';have:=vT hin (by rw[h.head.size];omega) hui;omega
theorem ig:∀ (l:List Oper) (k:Nat) (a:Act),eB P ops w0 fr needs vals g Q l k a→eB P ops w0 fr needs vals g (fun _=>True) l k a
 | [],_,_,_=>trivial
 | o :: l,k,a,h=>by
  unfold eB at h ⊢
  cases hf:fr k with
  | some f=>rw[hf] at h;exact⟨h.1,h.2.1,ig l _ _ h.2.2⟩
  | none =>
   rw[hf] at h
   simp only[wpQuiet] at h ⊢
   by_cases hw:Region.wanted o (yielded ops a.tmps)=true
   ·rw[if_pos hw] at h ⊢
    obtain⟨v,h1,h2,h3⟩:=h
    exact⟨v,h1,h2,ig l _ _ h3⟩
   ·rw[if_neg hw] at h ⊢
    exact⟨h.1,ig l _ _ h.2⟩
theorem ii {Q2:Act→Prop} (hQ:∀ a,Q a→Q2 a):∀ (l:List Oper) (k:Nat) (a:Act),eB P ops w0 fr needs vals g Q l k a→eB P ops w0 fr needs vals g Q2 l k a
 | [],_,_,h=>hQ _ h
 | o :: l,k,a,h=>by
  unfold eB at h ⊢
  cases hf:fr k with
  | some f=>rw[hf] at h;exact⟨h.1,h.2.1,ii hQ l _ _ h.2.2⟩
  | none =>
   rw[hf] at h
   simp only[wpQuiet] at h ⊢
   by_cases hw:Region.wanted o (yielded ops a.tmps)=true
   ·rw[if_pos hw] at h ⊢
    obtain⟨v,h1,h2,h3⟩:=h
    exact⟨v,h1,h2,ii hQ l _ _ h3⟩
   ·rw[if_neg hw] at h ⊢
    exact⟨h.1,ii hQ l _ _ h.2⟩
theorem fq {id:Nat} {Q':Exit→Act→World→Prop} {a:Act} {w:World} {l:List Oper} (n:Nat) (fr:Nat→Option aU) (needs:Nat→List Nat) (vals:List Value) (hm:P.follows .mixedOrders=true) (hB:gq l.toArray needs n=true)
  (H:∀ g (N:Nat→List Nat),(∀ k,∀ j ∈ needs k,j ∈ N k)→eB P l.toArray w.drew fr N vals g (fun a'=>∀ w',Below w.heap.size w w'→(∀ k f,k<n→fr k=some f→f.holds w' (g k)) →
   (∀ k k' f f' b b',k<n→k'<n→fr k=some f→fr k'=some f'→k≠k'→f.own (g k)=some b→f'.own (g k')=some b'→b≠b')→wpList P l.toArray Q' (l.drop n) a' w') (l.take n) 0 a):(Code.region id l.toArray true).wp P Q' a w:=by
 have hB0:=hB;simp only[gq,Bool.and_eq_true,decide_eq_true_eq] at hB;obtain⟨⟨⟨⟨⟨hsel,hn⟩,htl⟩,hdst⟩,hwait⟩,hseq⟩:=hB;refine wp_region_any hm ?_;have hn':n≤l.length:=by simpa using hn
 have:=zB (P:=P) (ops:=l.toArray) (w0:=w.drew) (fr:=fr) (vals:=vals) (a0:=a) (l:=l.take n) (Q':=Q') hB0 rfl (fun g N hN=>ig _ _ _ (H g N hN)) (fun g w' hb hh hd=>by
  have:=(fM _ 0 _ (H g needs (fun _ _ h=>h))).1 w' ⟨hb.os,hb.tape,hb.output,hb.size,hb.block⟩ hh hd
  exact this) n (Array.replicate l.toArray.size false) (fun _=>undef) a w.drew ?_ ⟨⟨by simp,fun j oj _ hl=>(by rw[getD_replicate_false] at hl;cases hl),fun t _ ht=>getD_in (by simpa using ht) (getD_replicate_false _ _)⟩,
   Below.refl _ _,fun k f _ hk=>(by rw[getD_replicate_false] at hk;cases hk),fun k k' f f' b b' _ _ hk=>(by rw[getD_replicate_false] at hk;cases hk),bQ.nil fun k _ hk=>(by rw[getD_replicate_false] at hk;cases hk)⟩
 ·rw[show n+(l.toArray.size-n)=l.toArray.size by simp;omega] at this;exact this
 ·unfold mC;rw[List.filter_eq_self.2 (fun k _=>by rw[getD_replicate_false];rfl)];simp
end

theorem FF {p:List Value→Prop} (h:∃ v,∃ l,p (v :: l)):∃ l,p l:=by
 obtain⟨v,l,h⟩:=h;exact⟨v :: l,h⟩
theorem bj {P:Program} {id:Nat} {Q':Exit→Act→World→Prop} {a:Act} {w:World} {l:List Oper} (n:Nat) (fr:Nat→Option aU) (needs:Nat→List Nat) (hm:P.follows .mixedOrders=true) (hB:gq l.toArray needs n=true)
  (H:∃ vals:List Value,∀ g (N:Nat→List Nat),(∀ k,∀ j ∈ needs k,j ∈ N k)→eB P l.toArray w.drew fr N vals g (fun a'=>∀ w',Below w.heap.size w w'→(∀ k f,k<n→fr k=some f→f.holds w' (g k)) →
   (∀ k k' f f' b b',k<n→k'<n→fr k=some f→fr k'=some f'→k≠k'→f.own (g k)=some b→f'.own (g k')=some b'→b≠b')→wpList P l.toArray Q' (l.drop n) a' w') (l.take n) 0 a):(Code.region id l.toArray true).wp P Q' a w:=by
 obtain⟨vals,H⟩:=H;exact fq n fr needs vals hm hB H
theorem av {P:Program} {id:Nat} {Q':Exit→Act→World→Prop} {a:Act} {w:World} {l:List Oper} (n:Nat) (fr:Nat→Option aU) (needs:Nat→List Nat) (hm:P.follows .mixedOrders=true) (hB:gq l.toArray needs n=true)
  (H:∃ vals:List Value,∀ g (N:Nat→List Nat),(∀ k,∀ j ∈ needs k,j ∈ N k)→eB P l.toArray w.drew fr N vals g (fun a'=>∀ w',Below w.heap.size w w'→(∀ k f,k<n→fr k=some f→f.holds w' (g k))→wpList P l.toArray Q' (l.drop n) a' w') (l.take n) 0 a):(Code.region id l.toArray true).wp P Q' a w:=by
 obtain⟨vals,H⟩:=H;exact fq n fr needs vals hm hB fun g N hN=>ii (fun _ h w' hb hh _=>h w' hb hh) _ _ _ (H g N hN)
theorem ao {w:World} {a:Addr} {v:Value} (h:w.cell? a=some v) {fr:Nat→Option aU} {g:Nat→Value} {N:List Nat} (p:Inh w.drew fr g N):p.w.cell? a=some v:=by
 have hb:Below w.heap.size w p.w:=⟨p.low.os,p.low.tape,p.low.output,p.low.size,p.low.block⟩;rw[hb.cell (block_lt_of_cell h)];exact h
/-! ### A region in its written order: the same walk -/
section
variable {P:Program} {ops:Array Oper} {w0:World} {fr:Nat→Option aU} {needs:Nat→List Nat} {vals:List Value} {g:Nat→Value} {Q:Act→Prop}
end
end Go.Proofs.YtnoidlacjiafdaaGreat
