/- Walks. -/
import Derived.Laws.BitsAllLaws
import Derived.WalkKit
import Derived.BigQuiet
import Derived.BigRegion
import Derived.Deep.OwnRows
import Derived.OwnWalk
import Derived.Test.YtechbdnhalmobaaGreatDoorBE
namespace Go.Proofs.YtechbdnhalmobaaGreatDoor
set_option linter.unusedSimpArgs false
set_option linter.unusedVariables false
set_option maxRecDepth 100000
set_option maxHeartbeats 16000000
open Go.RowKit
open Go.Proofs.Tryz
def Hu(n:Nat):Nat:=if n%2=1 then (n/2) ^^^ 3988292384 else n/2
def bitN:Nat->Nat->Nat
 | 0,n=>n
 | k+1,n=>Hu (bitN k n)
def ent(i:Nat):Nat:=bitN 8 i
def stp(s c:Nat):Nat:=ent (s%256 ^^^ c) ^^^ (s/256)
def NY(s:Nat)(l:List Nat):Nat:=l.foldl stp s
def crc(l:List Nat):Nat:=4294967295-NY 4294967295 l
def Byt(l:List Nat):Prop:=∀c∈l,c<256
theorem SP{n:Nat}(h:n<4294967296):Hu n<4294967296:=by
 unfold Hu;split
 ·exact Nat.xor_lt_two_pow (n:=32) (by omega) (by omega)
 ·omega
theorem Kb(k:Nat){n:Nat}(h:n<4294967296):bitN k n<4294967296:=by
 induction k with
 | zero=>exact h
 | succ k a=>exact SP a
theorem Qu(x y:Nat):Hu (x ^^^ 2*y)=Hu x ^^^ y:=by
 have b:(x ^^^ 2*y)%2=x%2:=by
  have:=@Nat.xor_mod_two_pow x (2*y) 1;simp at this;simpa using this
 have a:(x ^^^ 2*y)/2=x/2 ^^^ y:=by
  have:=@Nat.xor_div_two_pow x (2*y) 1;simp at this;simpa using this
 unfold Hu;rw[b,a];split
 ·rw[Nat.xor_assoc,Nat.xor_assoc,Nat.xor_comm y]
 ·rfl
theorem Qv(k:Nat):∀x y:Nat,bitN k (x ^^^ 2^k*y)=bitN k x ^^^ y:=by
 induction k with
 | zero=>intro x y;simp[bitN]
 | succ k a=>
  intro x y;show Hu (bitN k _)=Hu (bitN k x) ^^^ y;rw[show 2^(k+1)*y=2^k*(2*y) by rw[Nat.pow_succ,Nat.mul_assoc],a,Qu]
theorem TD(s:Nat):s%256 ^^^ 256*(s/256)=s:=by
 have:=Nat.two_pow_add_eq_or_of_lt (i:=8) (b:=s%256) (Nat.mod_lt _ (by decide)) (s/256)
 have a:s%256 ^^^ 256*(s/256)=(256*(s/256))|||s%256:=by
  apply Nat.eq_of_testBit_eq;intro i;rw[Nat.testBit_xor,Nat.testBit_or];by_cases h:i<8
  ·rw[show 256=2^8 from rfl,Nat.testBit_two_pow_mul];simp[show ¬8<=i by omega]
  ·rw[show s%256=s%2^8 from rfl,Nat.testBit_mod_two_pow];simp[h]
 rw[a];have e:256*(s/256)|||s%256=2^8*(s/256)+s%256:=this.symm
 rw[e];omega
theorem Tx{s c:Nat}:stp s c=bitN 8 (s ^^^ c):=by
 unfold stp ent;rw[<-Qv 8];congr 1
 rw[Nat.xor_assoc,Nat.xor_comm c,<-Nat.xor_assoc,TD]
theorem Tw{s c:Nat}(a:s<4294967296)(b:c<256):stp s c<4294967296:=by
 rw[Tx];exact Kb 8 (Nat.xor_lt_two_pow (n:=32) a (by omega))
theorem SC{l:List Nat}(a:Byt l):∀{s:Nat},s<4294967296->NY s l<4294967296:=by
 induction l with
 | nil=>intro s h;exact h
 | cons c l b=>intro s h;exact b (fun d e=>a d (List.mem_cons_of_mem _ e)) (Tw h (a c List.mem_cons_self))
theorem J8(l:List Nat):crc l<4294967296:=by unfold crc;omega
def be:Nat->Int->List Nat
 | 0,_=>[]
 | w+1,n=>((n/((256^w:Nat):Int))%256).toNat :: be w n
def nb(l:List Nat):Nat:=l.foldl (fun n c=>n*256+c) 0
theorem gF(w:Nat)(n:Int):(be w n).length=w:=by
 induction w with
 | zero=>rfl
 | succ w a=>simp[be,a]
theorem RJ(l:List Nat):∀k:Nat,l.foldl (fun n c=>n*256+c) k=k*256^l.length+nb l:=by
 induction l with
 | nil=>intro k;simp[nb]
 | cons c l a=>
  intro k;rw[nb,List.foldl_cons,List.foldl_cons,a,a,List.length_cons,Nat.pow_succ,Nat.zero_mul,Nat.zero_add,Nat.add_mul,Nat.mul_assoc,Nat.mul_comm 256,Nat.add_assoc]
theorem Mo(c:Nat)(l:List Nat):nb (c :: l)=c*256^l.length+nb l:=by
 rw[nb,List.foldl_cons,RJ];simp
theorem LX(n P:Int)(a:0<P):n/P%256*P+n%P=n%(P*256):=by
 have c:=Int.emod_nonneg n (show P≠0 by omega);have g:=Int.emod_lt_of_pos n a;have b:=Int.emod_nonneg (n/P) (show(256:Int)≠0 by decide);have h:=Int.emod_lt_of_pos (n/P) (show(0:Int)<256 by decide);have f:=Int.emod_add_mul_ediv n P;have d:=Int.emod_add_mul_ediv (n/P) 256
 have e:n=(n/P%256*P+n%P)+(P*256)*(n/P/256):=by
  generalize n/P/256=q at *;generalize n/P%256=r at *;generalize n%P=s at *;rw[<-d] at f;grind
 conv=>rhs;rw[e,Int.add_mul_emod_self_left]
 symm;refine Int.emod_eq_of_lt (Int.add_nonneg (Int.mul_nonneg b (by omega)) c) ?_;have:(n/P%256)*P<=255*P:=Int.mul_le_mul_of_nonneg_right (by omega) (by omega);omega
theorem KD(w:Nat)(n:Int):((nb (be w n):Nat):Int)=n%((256^w:Nat):Int):=by
 induction w with
 | zero=>simp[be,nb,Int.emod_one]
 | succ w b=>
  rw[be,Mo,gF,Int.natCast_add,b,Int.natCast_mul];have e:0<256^w:=Nat.pow_pos (by decide);obtain⟨P,a⟩:∃P:Int,((256^w:Nat):Int)=P:=⟨_,rfl⟩;have c:0<P:=by omega
  rw[Nat.pow_succ,Int.natCast_mul,a];have d:((n/P%256).toNat:Int)=n/P%256:=by omega
  rw[d];exact LX n P c
def RdB(w:World)(v:Value)(xs:List Nat):Prop:=
 Byt xs/\∃ao cap,v=.slice ao xs.length cap/\xs.length<=cap/\∀j,j<xs.length->∃b o,ao=some ⟨b,o,none⟩/\b<w.heap.size/\w.cell? ⟨b,o+j,none⟩=some (.int .u8 ((xs.getD j 0:Nat):Int))
theorem RdB.below{w w':World}{v:Value}{c:List Nat}(h:RdB w v c)(hb:zB w w'):RdB w' v c:=by
 obtain⟨g,l,a,rfl,i,H⟩:=h;refine⟨g,l,a,rfl,i,fun j f=>?_⟩;obtain⟨b,o,e,d,k⟩:=H j f;exact⟨b,o,e,Nat.lt_of_lt_of_le d hb.size,(hb.cell (p:=⟨b,o+j,none⟩) d).trans k⟩
theorem Ld{a:List Nat}(h:Byt a)(j:Nat):a.getD j 0<256:=by
 rw[List.getD_eq_getElem?_getD];cases e:a[j]? with
 | none=>simp
 | some c=>exact h c (List.mem_of_getElem? e)
theorem QD(m:Nat)(h:m<4294967296):bits .and .u32 (m:Int) 1=((m%2:Nat):Int):=by
 have:=u32_and_nat m 1 h (by decide);rw[Nat.and_one_is_mod] at this;exact this
theorem NX(s:Nat)(a:List Nat)(k:Nat)(h:k<a.length):NY s (a.take (k+1))=stp (NY s (a.take k)) (a.getD k 0):=by
 rw[List.take_add_one,NY,List.foldl_append,List.getElem?_eq_getElem h,List.getD_eq_getElem?_getD,List.getElem?_eq_getElem h];rfl
theorem QI(n:Nat)(h:n<4294967296):4294967295 ^^^ n=4294967295-n:=by
 have a:((BitVec.allOnes 32) ^^^ (BitVec.ofNat 32 n)).toNat=(~~~ (BitVec.ofNat 32 n)).toNat:=by rw[BitVec.allOnes_xor]
 rw[BitVec.toNat_xor,BitVec.toNat_not,BitVec.toNat_allOnes,BitVec.toNat_ofNat,Nat.mod_eq_of_lt (show n<2^32 from h)] at a;exact a
theorem RE(n:Nat)(h:n<4294967296):bits .xor .u32 IntKind.u32.max (n:Int)=((4294967295-n:Nat):Int):=by
 rw[show IntKind.u32.max=((4294967295:Nat):Int) from rfl,u32_xor_nat _ _ (by decide) h,QI n h]
def nv:List Nat->Nat
 | []=>0
 | d :: r=>d+4294967296*nv r
def dg(n:Nat):List Nat:=if h:n=0 then [] else n%4294967296 :: dg (n/4294967296)
termination_by n
decreasing_by omega
def Dig(l:List Nat):Prop:=∀d∈l,d<4294967296
theorem yQ{l:List Nat}(h:Dig l)(n:Nat):Dig (l.take n):=fun d a=>h d (List.mem_of_mem_take a)
def Rd(w:World)(s:Value)(xs:List Nat):Prop:=
 Dig xs/\((s=.slice none 0 0/\xs=[])∨∃b o cap,s=.slice (some ⟨b,o,none⟩) xs.length cap/\xs.length<=cap/\xs.length<=1099511627776/\b<w.heap.size/\∀(i:Nat) (h:i<xs.length),w.cell? ⟨b,o+i,none⟩=some (.int .u32 (xs[i]:Nat)))
theorem Rd.nil(w:World):Rd w (.slice none 0 0) []:=⟨fun _ h=>(by cases h),.inl ⟨rfl,rfl⟩⟩
theorem Rd.below{w w':World}{s:Value}{c:List Nat}(h:Rd w s c)(hb:zB w w'):Rd w' s c:=by
 obtain⟨e,h|⟨b,o,a,l,k,g,d,j⟩⟩:=h
 ·exact⟨e,.inl h⟩
 ·exact⟨e,.inr ⟨b,o,a,l,k,g,Nat.lt_of_lt_of_le d hb.size,fun i f=>(hb.cell (p:=⟨b,_,none⟩) d).trans (j i f)⟩⟩
theorem Rd.take{w:World}{b o a:Nat}{c:List Nat}(h:Rd w (.slice (some ⟨b,o,none⟩) c.length a) c)(n:Nat)(f:n<=c.length):Rd w (.slice (some ⟨b,o,none⟩) n a) (c.take n):=by
 obtain⟨j,⟨k,-⟩|⟨s,q,d,l,r,p,e,m⟩⟩:=h
 ·cases k
 ·injection l with e1 e2 e3
  injection e1 with e1
  injection e1 with e4 e5
  subst e4;subst e5;subst e3;exact⟨yQ j _,.inr ⟨b,o,a,by rw[List.length_take,Nat.min_eq_left f],by rw[List.length_take];omega,by rw[List.length_take];omega,e,fun i g=>by rw[List.getElem_take];exact m i (by rw[List.length_take] at g;omega)⟩⟩
def ap(w:World)(v:Value)(x:WI):Prop:=∃s,v=.agg #[.bool x.ng,.bool x.ov,s]/\Rd w s (dg x.sz)
theorem ap.below{w w':World}{v:Value}{x:WI}(h:ap w v x)(hb:zB w w'):ap w' v x:=by
 obtain⟨s,b,a⟩:=h;exact⟨s,b,a.below hb⟩
theorem Rd.form{w:World}{s:Value}{c:List Nat}(h:Rd w s c):∃A a,s=.slice A c.length a:=by
 obtain⟨-,⟨rfl,rfl⟩|⟨b,o,a,rfl,-⟩⟩:=h
 ·exact⟨_,_,rfl⟩
 ·exact⟨_,_,rfl⟩
def nvf(f:Nat->Nat):Nat->Nat
 | 0=>0
 | k+1=>nvf f k+4294967296^k*f k
def cy(f g:Nat->Nat):Nat->Nat
 | 0=>0
 | k+1=>(cy f g k+f k+g k)/4294967296
theorem eo:(Tryz.prog.info? 256).map (fun i=>(i.zero,i.size,i.bytes))=some (some (.int .u32 0),1,4):=by kernel_rfl
theorem Rd.row{w:World}{g n:Nat}{t:TypeId}{f:Nat->Nat}(h:w.rowIs g t n (fun i=>.int .u32 (f i:Nat)))(c:n<=1099511627776)(e:∀i,i<n->f i<4294967296):Rd w (.slice (some ⟨g,0,none⟩) n n) ((List.range n).map f):=by
 refine⟨fun d j=>?_,.inr ⟨g,0,n,by simp,by simp,by simpa using c,h.lt,fun i a=>?_⟩⟩
 ·obtain⟨i,a,rfl⟩:=List.mem_map.1 j;exact e i (List.mem_range.1 a)
 ·have b:i<n:=by simpa using a
  rw[Nat.zero_add,h.cell b];simp
theorem Rd.at{w:World}{b o c n:Nat}{xs:List Nat}(h:Rd w (.slice (some ⟨b,o,none⟩) n c) xs)(i:Nat)(a:i<xs.length):b<w.heap.size/\w.cell? ⟨b,o+i,none⟩=some (.int .u32 (xs.getD i 0:Nat))/\xs.getD i 0<4294967296:=by
 obtain⟨f,⟨g,-⟩|⟨m,l,d,j,h1,h2,e,k⟩⟩:=h
 ·cases g
 ·injection j with e1 e2 e3
  injection e1 with e1
  injection e1 with e4 e5
  subst e4;subst e5;have:xs.getD i 0=xs[i]:=by simp[List.getD,a]
  rw[this];exact⟨e,k i a,f _ (List.getElem_mem a)⟩
theorem new1(w:World)(x:Value)(t:TypeId):∀(j:Nat) (u:Value),[x][j]?=some u->(w.alloc (Obj.cells #[x] t)).cell? ((⟨w.heap.size,0,none⟩:Addr).add j)=some u:=by
 intro j u a;match j,a with
 | 0,a=>simp at a;subst a;simp[Addr.add]
theorem Vp(x:Value)(h:x.oneCell'=true):∀u∈[x],u.oneCell'=true:=by
 intro u a;simp at a;subst a;exact h
theorem JZ:(prog.info? 5).map (fun i=>(i.zero,i.size,i.bytes))=some (some (.int .u8 0),1,1):=by kernel_rfl
def Ai(w:World)(B:Nat)(v:Value)(xs:List Nat):Prop:=
 Byt xs/\w.ownsRow B 5 1 v xs.length (xs.map fun (c:Nat)=>Value.int .u8 (c:Int))
def Ia(w:World)(v:Value)(xs:List Nat):Prop:=
 Byt xs/\∃g,v=.slice (some ⟨g,0,none⟩) xs.length xs.length/\g<w.heap.size/\∀j,j<xs.length->w.cell? ⟨g,j,none⟩=some (.int .u8 ((xs.getD j 0:Nat):Int))
def om(w:World)(B:Nat)(v:Value)(xs:List Nat):Prop:=Ai w B v xs∨Ia w v xs
theorem Ai.rd{w:World}{B:Nat}{v:Value}{b:List Nat}(h:Ai w B v b):RdB w v b:=by
 obtain⟨i,q,⟨rfl,p⟩|⟨g,a,e,rfl,o,f,k,m,n,l⟩⟩:=h
 ·exact⟨i,⟨none,0,by rw[p],by omega,fun j d=>absurd d (by omega)⟩⟩
 ·have own:w.ownsRow B 5 1 (.slice (some ⟨g,0,none⟩) b.length a) b.length (b.map fun (c:Nat)=>Value.int .u8 (c:Int)):=⟨q,.inr ⟨g,a,e,rfl,o,f,k,m,n,l⟩⟩;refine⟨i,some ⟨g,0,none⟩,a,rfl,k,fun j d=>⟨g,0,rfl,(Array.getElem?_eq_some_iff.1 f).1,?_⟩⟩;rw[Nat.zero_add,own.cellAt j (by omega),List.getElem?_map,List.getElem?_eq_getElem d,List.getD_eq_getElem?_getD,List.getElem?_eq_getElem d];rfl
theorem Ia.rd{w:World}{v:Value}{a:List Nat}(h:Ia w v a):RdB w v a:=by
 obtain⟨b,g,rfl,d,H⟩:=h;exact⟨b,some ⟨g,0,none⟩,a.length,rfl,Nat.le_refl _,fun j c=>⟨g,0,rfl,d,by rw[Nat.zero_add];exact H j c⟩⟩
theorem om.rd{w:World}{B:Nat}{v:Value}{a:List Nat}(h:om w B v a):RdB w v a:=h.elim Ai.rd Ia.rd
theorem Ai.mono{w:World}{B f:Nat}{v:Value}{d:List Nat}(h:Ai w B v d)(hb:f<=B):Ai w f v d:=by
 obtain⟨c,i,h|⟨g,b,a,e,hB,r⟩⟩:=h
 ·exact⟨c,i,.inl h⟩
 ·exact⟨c,i,.inr ⟨g,b,a,e,Nat.le_trans hb hB,r⟩⟩
theorem Ai.keep{w w':World}{B:Nat}{v:Value}{d:List Nat}(h:Ai w B v d)(hb:zB w w'):Ai w' B v d:=by
 obtain⟨c,f,h|⟨g,b,a,e,hB,i,r⟩⟩:=h
 ·exact⟨c,f,.inl h⟩
 ·exact⟨c,f,.inr ⟨g,b,a,e,hB,(hb.block g (Array.getElem?_eq_some_iff.1 i).1).trans i,r⟩⟩
theorem Ia.keep{w w':World}{v:Value}{a:List Nat}(h:Ia w v a)(hb:zB w w'):Ia w' v a:=by
 obtain⟨c,g,rfl,b,H⟩:=h;exact⟨c,g,rfl,Nat.lt_of_lt_of_le b hb.size,fun j d=>(hb.cell (p:=⟨g,j,none⟩) b).trans (H j d)⟩
theorem om.keep{w w':World}{B:Nat}{v:Value}{a:List Nat}(h:om w B v a)(hb:zB w w'):om w' B v a:=h.imp (·.keep hb) (·.keep hb)
theorem om.mono{w:World}{B b:Nat}{v:Value}{a:List Nat}(h:om w B v a)(hb:b<=B):om w b v a:=h.imp (·.mono hb) id
theorem RdB.form{w:World}{v:Value}{c:List Nat}(h:RdB w v c):∃b a,v=.slice b c.length a:=by
 obtain⟨_,b,a,e,_⟩:=h;exact⟨b,a,e⟩
theorem I6{x y:List Nat}(d:Byt x)(b:Byt y):Byt (x++y):=fun a c=>(List.mem_append.1 c).elim (d a) (b a)
theorem N7(a:List Nat):∀u∈a.map (fun (c:Nat)=>Value.int .u8 (c:Int)),u.oneCell'=true:=by
 intro u b;obtain⟨c,_,rfl⟩:=List.mem_map.1 b;rfl
theorem Ll{w:World}{v:Value}{a:List Nat}(h:Ia w v a)(A:a.length<=2000000)(ad:Addr)(c:Nat)(b:List Nat)(s:Byt b)(q:0<b.length)(B:b.length<=1000000)(d:∀j u,(b.map fun (c:Nat)=>Value.int .u8 (c:Int))[j]?=some u->w.cell? (ad.add j)=some u):∃r m,(Builtin.append_ #[36,36] 36 #[v,.slice (some ad) b.length c]).run prog w=.ok r m/\Ai m w.heap.size r (a++b)/\zB w m:=by
 obtain⟨y,t,l,i,k⟩:=info_parts JZ;obtain⟨p,g,rfl,z,H⟩:=h
 have x:=run_append_grow (P:=prog) w 36 36 5 y (.int .u8 0) underlying36 t l ⟨g,0,none⟩ a.length a.length (a.map fun (c:Nat)=>Value.int .u8 (c:Int)) (by rw[i];simp)
  (fun j u f=>by
   rw[List.getElem?_map] at f;by_cases e:j<a.length
   ·rw[List.getElem?_eq_getElem e] at f;obtain rfl:=Option.some.inj f;rw[Addr.add_lit,Nat.zero_add,H j e,List.getD_eq_getElem?_getD,List.getElem?_eq_getElem e];rfl
   ·rw[List.getElem?_eq_none (by omega)] at f;cases f)
  ad b.length c (b.map fun (c:Nat)=>Value.int .u8 (c:Int)) (by rw[i];simp) d (by omega) (by omega) (growslice_fits (by omega) (by rw[k];omega))
 have n:=grownCap_ge w (a.length+b.length) a.length 5;have o:=grownCap_le_maxLen w (a.length+b.length) a.length 5 (by unfold maxLen;omega);refine⟨_,_,x,⟨I6 p s,by simp,.inr ⟨w.heap.size,_,_,by rw[List.length_append],Nat.le_refl _,heap_alloc_new w.drew _,by rw[List.length_append];exact n,o,?_,?_⟩⟩,(Below.refl _ _).drew.alloc (Nat.le_refl _) _⟩
 ·simp only[Array.size_append,List.size_toArray,size_zeroCells,List.length_map];rw[show(Value.int IntKind.u8 0).cells.size=1 from rfl];omega
 ·simp only[Array.toList_append,List.map_append];rw[show(a++b).length*1=((a.map fun (c:Nat)=>Value.int .u8 (c:Int))++(b.map fun (c:Nat)=>Value.int .u8 (c:Int))).length by simp];exact List.take_left
theorem Mc{w:World}{B:Nat}{v:Value}{f:List Nat}(h:Ai w B v f)(n:B<=w.heap.size)(x:f.length<=2000000)(ad:Addr)(c:Nat)(a:List Nat)(q:Byt a)(y:a.length<=1000000)(b:∀j u,(a.map fun (c:Nat)=>Value.int .u8 (c:Int))[j]?=some u->w.cell? (ad.add j)=some u):∃e d,(Builtin.append_ #[36,36] 36 #[v,.slice (some ad) a.length c]).run prog w=.ok e d/\Ai d B e (f++a)/\Below B w d:=by
 obtain⟨t,r,l,k,i⟩:=info_parts JZ;obtain⟨e,d,s,p,o,-⟩:=run_append_own (P:=prog) w B 36 36 5 t (.int .u8 0) 1 1 underlying36 r l k i rfl (by decide) v f.length _ h.2 ad a.length c (a.map fun (c:Nat)=>Value.int .u8 (c:Int)) (by simp) b (N7 a) (by unfold maxLen;omega) (by omega) n;exact⟨e,d,s,⟨I6 h.1 q,by rw[List.length_append,List.map_append];exact p⟩,(Below.refl _ _).grown o n (fun g m=>(h.2.lt g m).1)⟩
theorem Kc{w:World}{B:Nat}{v:Value}{g:List Nat}(h:om w B v g)(i:B<=w.heap.size)(l:g.length<=2000000)(ad:Addr)(c:Nat)(b:List Nat)(k:Byt b)(d:0<b.length)(m:b.length<=1000000)(a:∀j u,(b.map fun (c:Nat)=>Value.int .u8 (c:Int))[j]?=some u->w.cell? (ad.add j)=some u):∃f e,(Builtin.append_ #[36,36] 36 #[v,.slice (some ad) b.length c]).run prog w=.ok f e/\Ai e B f (g++b)/\Below B w e:=by
 rcases h with h|h
 ·exact Mc h i l ad c b k m a
 ·obtain⟨f,e,o,n,p⟩:=Ll h l ad c b k d m a;exact⟨f,e,o,n.mono i,p.mono i⟩
theorem DX{P:Program}{w:World}{c:Array Oper}{b:List Oper}{o:Oper}{a:Act}{Q:Exit->Act->World->Prop}(d:o.guard=none)(s x:Operand)(t:TypeId)(k:o.op=.call {callee:=.builtin .append,args:=#[s,x],argTypes:=#[t,t]}){f e g:Value}{i:World}(n:(Builtin.append_ #[t,t] o.type #[f,e]).run P w=.ok g i)(l:a.eval s=f)(m:a.eval x=e)(h:wpList P c Q b (a.put o.dst g) i):wpList P c Q (o :: b) a w:=
 wpList_plain d fun _ j=>by
  unfold Oper.wp execOp
  simp only[k,resolve,invoke,builtin,Sem.run_bind,Sem.run_pure,Result.andThen_ok,List.map_toArray,List.map_cons,List.map_nil,l,m,n]
  exact j _ _ h
theorem om.alloc{w:World}{B:Nat}{v:Value}{a:List Nat}(h:om w B v a)(o:Obj):om (w.alloc o) B v a:=h.keep ((Below.refl _ _).alloc (Nat.le_refl _) o)
theorem om.form{w:World}{B:Nat}{v:Value}{b:List Nat}(h:om w B v b):∃c a,v=.slice c b.length a:=h.rd.form
theorem U3(w:World)(c:Nat)(t:TypeId):∀(j:Nat) (u:Value),([c].map fun (c:Nat)=>Value.int .u8 (c:Int))[j]?=some u->(w.alloc (Obj.cells #[.int .u8 (c:Int)] t)).cell? ((⟨w.heap.size,0,none⟩:Addr).add j)=some u:=new1 w _ t
theorem Cy{w:World}{B:Nat}{v:Value}{a:List Nat}(h:Hid (om w B v a)):Hid (om w.drew B v a):=h.out.keep (Below.refl _ _).drew
theorem Bg{w:World}{B k:Nat}{v:Value}{a:List Nat}(h:Hid (om w B v a)):Hid (om (w.drewN k) B v a):=h
def Ln(w:World)(v:Value):Prop:=
 ∃g cap,v=.slice (some ⟨g,0,none⟩) 256 cap/\g<w.heap.size/\∀i,i<256->w.cell? ⟨g,i,none⟩=some (.int .u32 ((ent i:Nat):Int))
theorem Ln.below{w w':World}{v:Value}(h:Ln w v)(hb:zB w w'):Ln w' v:=by
 obtain⟨g,a,rfl,b,H⟩:=h;exact⟨g,a,rfl,Nat.lt_of_lt_of_le b hb.size,fun i c=>(hb.cell (p:=⟨g,i,none⟩) b).trans (H i c)⟩
abbrev PW(k:Nat):List Value:=(List.range k).map fun i=>Value.int .u32 ((ent i:Nat):Int)
theorem NP(k:Nat):PW (k+1)=PW k++[.int .u32 ((ent k:Nat):Int)]:=by
 unfold PW;rw[List.range_succ,List.map_append];rfl
theorem QW(w:World):Calls prog 245 #[] w fun e H=>(∃v,e=.returned v/\Ln H v)/\zB w H:=by
 obtain⟨R,x,u,q,o⟩:=info_parts eo;go_enter func245,ntmps245;go_wp2_with fail;go_loopw [1,5] (fun Q D wr=>∃k:Nat,k<=256/\D=.int .i64 k/\Hid (wr.ownsRow w.heap.size 256 1 Q k (PW k))/\Hid (zB w wr)) (fun _ D _=>256-(intOf D).toNat)
 case atStart=>exact⟨0,by omega,rfl,World.ownsRow_nil _ _ _ _,ae⟩
 case round=>
  obtain⟨k,V,rfl,a,l⟩:=hrel;by_cases K:k<256
  ·have c:Hid (∀j,bitN j k<4294967296):=fun j=>Kb j (by omega);go_wp2_with fail;go_loopw [3,10] (fun N h O=>∃j:Nat,j<=8/\h=.int .i64 j/\N=.int .u32 ((bitN j k:Nat):Int)/\O=wr) (fun _ h _=>8-(intOf h).toNat)
   case atStart=>exact⟨0,by omega,rfl,by go_num,rfl⟩
   case round=>
    obtain⟨j,S,rfl,rfl,rfl⟩:=hrel;by_cases G:j<8
    ·obtain⟨m,f⟩:∃m,m=bitN j k:=⟨_,rfl⟩;have t:m<4294967296:=by rw[f];exact c.out j
     have E:Hid (bitN (j+1) k=Hu m):=by show _=_;rw[f];rfl
     rw[<-f];have I:=QD m t;have T:bits .xor .u32 ((m:Int)/2) 3988292384=(((m/2) ^^^ 3988292384:Nat):Int):=u32_xor_nat (m/2) 3988292384 (by omega) (by decide);clear c f;by_cases z:m%2=1
     ·have n:Hid (Hu m=(m/2) ^^^ 3988292384):=by show _=_;unfold Hu;rw[if_pos z]
      rw[z] at I;go_wp2
      go_roundw
      case rel=>exact⟨j+1,by omega,by go_num,by rw[E.out,n.out],trivial⟩
      case measure=>simp[intOf];omega
     ·have n:Hid (Hu m=m/2):=by show _=_;unfold Hu;rw[if_neg z]
      have B:m%2=0:=by omega
      rw[B] at I;go_wp2
      go_roundw
      case rel=>exact⟨j+1,by omega,by go_num,by rw[E.out,n.out];rfl,trivial⟩
      case measure=>simp[intOf];omega
    ·have A:j=8:=by omega
     subst A;obtain⟨m,f⟩:∃m,m=bitN 8 k:=⟨_,rfl⟩;have L:Hid (ent k=m):=f.symm;rw[<-f];clear c f
     go_wp2_with (first
      | (at_builtin;refine wpList_append_own _ rfl _ _ 336 rfl w.heap.size 256 R (.int .u32 0) 1 4 underlying336 x u q o rfl (by decide) _ _ _ rfl (a.out.alloc _) ⟨wr.heap.size,0,none⟩ 1 1 [.int .u32 (m:Int)] rfl rfl (new1 _ _ _) (Vp _ rfl) (by unfold maxLen;omega) (by omega) (by have:=l.out.size;simp;omega) ?_;intro M F b d s)
      | go_in)
     have J:Hid (F.ownsRow w.heap.size 256 1 M (k+1) (PW (k+1))):=by show World.ownsRow _ _ _ _ _ _ _;rw[NP,L.out];exact b
     have C:Hid (zB w F):=(l.out.alloc l.out.size _).grown d (by have:=l.out.size;simp;omega) (fun g p=>(a.out.lt g p).1);clear b d a l s;go_wp2_with fail;go_roundw
     case rel=>exact⟨k+1,by omega,by go_num,J,C⟩
     case measure=>simp[intOf];omega
  ·have A:k=256:=by omega
   subst A;go_wp2_with fail;go_ret;refine⟨⟨_,rfl,?_⟩,l.out⟩;obtain⟨W,⟨rfl,B⟩|⟨g,y,P,e,U,p,r⟩⟩:=a.out
   ·cases B
   ·have own:=a.out;rw[e] at own;refine⟨g,y,e,(Array.getElem?_eq_some_iff.1 p).1,fun i x=>?_⟩;rw[own.cellAt i (by omega),List.getElem?_map,List.getElem?_range x];rfl
theorem To(t v:Value)(d:List Nat)(w:World)(Y:Ln w t)(h:RdB w v d)(hx:d.length<=1000000):zR 244 #[t,v] w (.int .u32 ((crc d:Nat):Int)):=by
 obtain⟨I,ao,Z,rfl,J,H⟩:=h;obtain⟨g,R,rfl,hg,T⟩:=Y;obtain⟨S,y⟩:∃f:Nat->Nat,f=fun k=>NY 4294967295 (d.take k):=⟨_,rfl⟩;have q:Hid (∀k,S k<4294967296):=fun k=>by rw[y];exact SC (fun c J=>I c (List.mem_of_mem_take J)) (by decide)
 have m:Hid (∀k,k<d.length->S (k+1)=ent (S k%256 ^^^ d.getD k 0) ^^^ (S k/256)):=fun k U=>by rw[y];exact NX _ _ _ U
 have P:Hid (S 0=4294967295):=by show _=_;rw[y];rfl
 have E:Hid (crc d=4294967295-S d.length):=by show _=_;rw[y];unfold crc;simp only[List.take_length]
 have F:=Lh H;have r:=Lh T;have K:=Lh (Ld I);clear I H T y;obtain⟨n,Q⟩:∃n,d.length=n:=⟨_,rfl⟩;obtain⟨X,V⟩:∃f:Nat->Nat,f=fun j=>d.getD j 0:=⟨_,rfl⟩;have x:Hid (∀j,d.getD j 0=X j):=fun j=>by rw[V]
 rw[Q] at hx J F m E ⊢;clear V Q;go_enter func244,ntmps244;go_wp2_with fail;go_loopw [5,11] (fun t5 u wr=>∃k:Nat,k<=n/\u=.int .i64 k/\t5=.int .u32 ((S k:Nat):Int)/\wr=w) (fun _ u _=>n-(intOf u).toNat)
 case atStart=>exact⟨0,by omega,rfl,by rw[P.out];rfl,rfl⟩
 case round=>
  obtain⟨k,U,rfl,rfl,rfl⟩:=hrel;have p:=q.out k;by_cases A:k<n
  ·obtain⟨b,o,rfl,a0,z⟩:=F.out k A;have l:=K.out k;have a:=Lh (m.out k A);rw[x.out] at z l a;obtain⟨s,C⟩:∃s,s=S k:=⟨_,rfl⟩;obtain⟨c,D⟩:∃c,c=X k:=⟨_,rfl⟩;rw[<-D] at z l a;rw[<-C] at a p ⊢;clear q m P E F K x C D;obtain⟨i,L⟩:∃i,s%256 ^^^ c=i:=⟨_,rfl⟩;have N:i<256:=by rw[<-L];exact Nat.xor_lt_two_pow (n:=8) (Nat.mod_lt _ (by decide)) l
   have W:bits .xor .u8 ((s:Int)%256) (c:Int)=((s%256 ^^^ c:Nat):Int):=u8_xor_nat (s%256) c (Nat.mod_lt _ (by decide)) l;rw[L] at W a;have M:=r.out i N;obtain⟨e,O⟩:∃e,ent i=e:=⟨_,rfl⟩;have G:e<4294967296:=by rw[<-O];exact Kb 8 (by omega)
   rw[O] at a M;have h3:bits .xor .u32 ((s:Int)/256) (e:Int)=((e ^^^ (s/256):Nat):Int):=by rw[Nat.xor_comm];exact u32_xor_nat (s/256) e (by omega) G
   clear L O r;go_wp2_with fail;go_roundw
   case rel=>exact⟨k+1,by omega,by go_num,by rw[a.out],trivial⟩
   case measure=>simp[intOf];omega
  ·have h8:k=n:=by omega
   subst h8;obtain⟨s,C⟩:∃s,s=S k:=⟨_,rfl⟩;rw[<-C] at E p ⊢;have B:=RE s p;clear q m P F K x C r;go_wp2_with fail;go_ret;exact⟨by rw[E.out,<-B];rfl,Below.refl _ _⟩
theorem PK(v:Value)(c:List Nat)(w:World)(h:RdB w v c)(g:c.length<=1000000):zR 183 #[v] w (.int .u32 ((crc c:Nat):Int)):=by
 have H:=Lh h;clear h;go_enter func183,ntmps183;go_wp2_with fail;refine(QW _).mono ?_;rintro e j ⟨⟨t,rfl,d⟩,a⟩;have f:=Lh d;clear d;go_wp2_with fail;refine(To _ _ _ _ f.out (H.out.below a) g).mono ?_;rintro e i ⟨rfl,b⟩;go_wp2_with fail;go_ret;exact⟨rfl,a.trans (b.mono a.size)⟩
theorem SR(n:Int):∀(wd d:Nat),d+1<=wd->(be wd n).take (wd-d)=(be wd n).take (wd-(d+1))++[((n/((256^d:Nat):Int))%256).toNat]:=by
 intro wd;induction wd with
 | zero=>intro d h;omega
 | succ w a=>
  intro d h;by_cases e:d=w
  ·subst e;rw[show d+1-d=0+1 by omega,show d+1-(d+1)=0 by omega];rfl
  ·rw[show w+1-d=(w-d)+1 by omega,show w+1-(d+1)=(w-(d+1))+1 by omega];show _ :: _=(_ :: _)++_;rw[List.cons_append,a d (by omega)]
theorem O8(d:Nat):(2:Int)^(8*d)=((256^d:Nat):Int):=by
 have h:2^(8*d)=256^d:=by rw[Nat.pow_mul]
 rw[<-h,Int.natCast_pow];rfl
theorem O6(B:Nat)(v:Value)(b:List Nat)(n:Int)(wd:Nat)(M:wd<=8)(w:World)(h:om w B v b)(K:B<=w.heap.size)(O:b.length<=1000000):Calls prog 182 #[v,n,.int .i64 (wd:Int)] w fun e q=>(∃g,e=.returned g/\om q B g (b++be wd n)/\(0<wd->Ai q B g (b++be wd n)))/\Below B w q:=by
 obtain⟨P,N,F,E,A⟩:=info_parts JZ;have H:=Lh h;clear h;go_enter func182,ntmps182;go_wp2_with fail;go_loopw [0,7] (fun s r wr=>∃d:Nat,d<=wd/\r=.int .i64 ((d:Int)-1)/\Hid (om wr B s (b++(be wd n).take (wd-d)))/\Hid (d<wd->Ai wr B s (b++(be wd n).take (wd-d)))/\Hid (Below B w wr)) (fun _ r _=>(intOf r+1).toNat)
 case atStart=>exact⟨wd,by omega,by go_num,by rw[Nat.sub_self,List.take_zero,List.append_nil];exact H,(show _->_ from fun h=>absurd h (Nat.lt_irrefl _)),Below.refl _ _⟩
 case round=>
  obtain⟨d,I,rfl,a,i,k⟩:=hrel;by_cases D:0<d
  ·obtain⟨d,rfl⟩:∃G,d=G+1:=⟨d-1,by omega⟩;have l:=SR n wd d I;obtain⟨c,t⟩:∃c,((n/((256^d:Nat):Int))%256).toNat=c:=⟨_,rfl⟩;have x:c<256:=by omega
   have J:n/2^(8*d)%256=(c:Int):=by rw[O8];omega
   rw[t] at l;clear t;obtain⟨g,p,u,m,f⟩:=Kc (a.out.alloc (Obj.cells #[.int .u8 (c:Int)] 5)) (by have:=k.out.size;simp;omega) (by rw[List.length_append,List.length_take];omega) ⟨wr.heap.size,0,none⟩ 1 [c] (by intro z y;simp at y;omega) (by simp) (by simp) (U3 wr c _);have j:=Lh u;clear u
   go_wp2_with (first
    | (at_builtin;refine DX rfl _ _ 36 rfl j.out rfl rfl ?_)
    | go_in)
   have o:Hid (d<wd->Ai p B g (b++(be wd n).take (wd-d))):=by show _->Ai _ _ _ _;intro _;rw[l,<-List.append_assoc];exact m
   have C:Hid (om p B g (b++(be wd n).take (wd-d))):=by show om _ _ _ _;rw[l,<-List.append_assoc];exact .inl m
   have f:Hid (Below B w p):=(k.out.alloc (Nat.le_trans K k.out.size) _).trans f;clear j m a i k;go_wp2_with fail;go_roundw
   case rel=>exact⟨d,by omega,by go_num,C,o,f⟩
   case measure=>first|(simp[intOf];done)|(simp[intOf];omega)
  ·have L:d=0:=by omega
   subst L;go_wp2_with fail;go_ret;exact⟨⟨_,rfl,by have:=a.out;rw[Nat.sub_zero,List.take_of_length_le (by rw[gF];exact Nat.le_refl _)] at this;exact this,by have:=i.out;rw[Nat.sub_zero,List.take_of_length_le (by rw[gF];exact Nat.le_refl _)] at this;exact this⟩,k.out⟩
theorem put_c(B:Nat)(v:Value)(a:List Nat)(n:Int)(wd:Nat)(f:wd<=8)(w:World)(h:om w B v a)(g:B<=w.heap.size)(k:a.length<=1000000):Calls prog 182 #[v,n,.int .i64 (wd:Int)] w fun e c=>(∃b,e=.returned b/\om c B b (a++be wd n))/\Below B w c:=
 (O6 B v a n wd f w h g k).mono (by rintro e c ⟨⟨b,j,d,-⟩,i⟩;exact⟨⟨b,j,d⟩,i⟩)
theorem Rr(B:Nat)(v:Value)(a:List Nat)(n:Int)(wd:Nat)(g:wd<=8)(l:0<wd)(w:World)(h:Hid (om w B v a))(i:B<=w.heap.size)(d:a.length<=1000000):Calls prog 182 #[v,n,.int .i64 (wd:Int)] w fun e c=>(∃b,e=.returned b/\Hid (Ai c B b (a++be wd n)))/\Below B w c:=
 (O6 B v a n wd g w h.out i d).mono (by rintro e c ⟨⟨b,k,-,f⟩,j⟩;exact⟨⟨b,k,f l⟩,j⟩)
theorem IF(B:Nat)(v:Value)(a:List Nat)(n:Int)(wd:Nat)(d:wd<=8)(w:World)(h:Hid (om w B v a))(f:B<=w.heap.size)(g:a.length<=1000000):Calls prog 182 #[v,n,.int .i64 (wd:Int)] w fun e b=>(∃c,e=.returned c/\Hid (om b B c (a++be wd n)))/\Below B w b:=put_c B v a n wd d w h f g
structure FrD where
 kind:Int
 src:Int
 boot:Int
 seq:Int
 stamp:Int
 dst:Int
 t1:Int
 t2:Int
 who:Int
 when:Int
 x:Int
 y:Int
 a:Int
 b:Int
 d:Int
deriving DecidableEq
abbrev frC(k s bo sq st ds ta tb wh wn x y a b d:Int):Value:=.agg #[k,s,bo,sq,st,ds,ta,tb,wh,wn,x,y,a,b,d]
abbrev frV(f:FrD):Value:=frC f.kind f.src f.boot f.seq f.stamp f.dst f.t1 f.t2 f.who f.when f.x f.y f.a f.b f.d
def FrD.el(f:FrD):El:=⟨f.x,f.y,f.a,f.b,f.d⟩
def nodeB(n:Int):Bool:=decide (0<=n)&&decide (n<64)
def inFB(n m:Int):Bool:=decide (0<=n)&&decide (n<=m)
def restF(f:FrD):FrD×Bool:=
 if f.kind=1∨f.kind=7 then (f,true)
 else if f.kind=2 then ({f with dst:=0},nodeB f.dst&&decide (f.dst≠f.src))
 else if f.kind=3 then ({f with dst:=0,t1:=0},nodeB f.dst&&(decide (f.dst≠f.src)&&inFB f.t1 4294967295))
 else if f.kind=4 then ({f with dst:=0,t1:=0,t2:=0,when:=0},nodeB f.dst&&(decide (f.dst≠f.src)&&(inFB f.t1 70368744177664&&(inFB f.t2 70368744177664&&inFB f.when 4294967295))))
 else if f.kind=5 then ({f with x:=0,y:=0,a:=0,b:=0,d:=0},f.el.may)
 else if f.kind=6 then ({f with who:=0,when:=0,x:=0,y:=0,a:=0,b:=0,d:=0},nodeB f.who&&(decide (f.who≠f.src)&&(inFB f.when f.stamp&&f.el.may)))
 else (f,false)
theorem lr(n:Int)(k:Bool)(h:nodeB n=k)(w:World):Calls prog 242 #[n] w fun e c=>e=.returned (.bool k)/\c=w:=by
 subst h;have E:nodeB n=(decide (0<=n)&&decide (n<64)):=rfl;by_cases b:0<=n
 ·have a:Hid (nodeB n=decide (n<64)):=by show _=_;rw[E];simp[b]
  clear E;go_enter func242,ntmps242;go_wp2
  go_ret;exact⟨by rw[a.out];rfl,rfl⟩
 ·have a:Hid (nodeB n=false):=by show _=_;rw[E];simp[b]
  clear E;go_enter func242,ntmps242;go_wp2
  go_ret;exact⟨by rw[a.out];rfl,rfl⟩
theorem Ie(n m:Int)(k:Bool)(h:inFB n m=k)(w:World):Calls prog 243 #[n,m] w fun e c=>e=.returned (.bool k)/\c=w:=by
 subst h;have E:inFB n m=(decide (0<=n)&&decide (n<=m)):=rfl;by_cases b:0<=n
 ·have a:Hid (inFB n m=decide (n<=m)):=by show _=_;rw[E];simp[b]
  clear E;go_enter func243,ntmps243;go_wp2
  go_ret;exact⟨by rw[a.out];rfl,rfl⟩
 ·have a:Hid (inFB n m=false):=by show _=_;rw[E];simp[b]
  clear E;go_enter func243,ntmps243;go_wp2
  go_ret;exact⟨by rw[a.out];rfl,rfl⟩
@[go_sem ↓] theorem Vu(P : Program)(w : World)(b o : Nat):(loadCellsFrom ⟨b, o, none⟩ 0 15 #[]).run P w=gT (w.row? b o 15) w (lcf P b o 15 w):=lcf_row? w b o 15
theorem LF(k s bo c j i e f h g x y a b d:Int):ones #[.int .i64 k,.int .i64 s,.int .i64 bo,.int .i64 c,.int .i64 j,.int .i64 i,.int .i64 e,.int .i64 f,.int .i64 h,.int .i64 g,.int .i64 x,.int .i64 y,.int .i64 a,.int .i64 b,.int .i64 d]=true:=by
 unfold ones;simp[Array.all_eq_true_iff_forall_mem,Value.oneCell']
theorem jj{P:Program}{f:FuncId}{a:Array Value}{W:World}{K:Ending->World->Prop}(h:∀u,u=W->Calls P f a u K):Calls P f a W K:=h W rfl
theorem eN{P:Program}{c:Code}{Q:Exit->Act->World->Prop}{a:Act}{W:World}(h:∀u,u=W->Code.wp P c Q a u):Code.wp P c Q a W:=h W rfl
theorem I2(x y a b d:Int)(m:Bool)(h:El.may ⟨x,y,a,b,d⟩=m)(w:World):zR 34 #[elC x y a b d] w (.bool m):=by
 rw[<-h];exact bD x y a b d w
def cA(t:Int):Bool:=decide (0<=t/\t<=1000000)
theorem zD(t:Int):cA t=true↔0<=t/\t<=1000000:=by unfold cA;simp
def ticksE(a b s:Int):Int:=if cA a=true/\cA b=true/\cA s=true then max 0 (b-a)+2*s+1 else 0
def atE(e:El)(a b v s:Int):El×Int:=
 if e.may=true/\cA a=true/\cA b=true/\cA s=true/\0<=v/\v<=4194304 then ageE e v (ticksE a b s) else (El.zero,1)
theorem Jj(a b s:Int):0<=ticksE a b s/\ticksE a b s<=3000001:=by
 unfold ticksE;split
 ·rename_i h;simp only[zD] at h;omega
 ·omega
theorem Ts(t:Int)(w:World):zR 39 #[t] w (.bool (cA t)):=by
 by_cases a:0<=t
 ·have E:Hid (cA t=decide (t<=1000000)):=by show _=_;unfold cA;simp[a]
  go_enter func39,ntmps39;go_wp2
  go_ret;exact⟨by rw[E.out];rfl,ad⟩
 ·have E:Hid (cA t=false):=by show _=_;unfold cA;simp[a]
  go_enter func39,ntmps39;go_wp2
  go_ret;exact⟨by rw[E.out];rfl,ad⟩
theorem ki(t:Int)(k:Bool)(h:cA t=k)(w:World):zR 39 #[t] w (.bool k):=by
 subst h;exact Ts t w
theorem ticks_cases(a b s:Int):cA a=false∨(cA a=true/\cA b=false)∨(cA a=true/\cA b=true/\cA s=false)∨(cA a=true/\cA b=true/\cA s=true):=by
 cases cA a<;>cases cA b<;>cases cA s<;>simp
theorem QQ(a b s:Int)(w:World):zR 41 #[a,b,s] w (.int .i64 (ticksE a b s)):=by
 rcases ticks_cases a b s with h|⟨h,f⟩|⟨h,f,c⟩|⟨h,f,c⟩
 ·have H:=Lh h;have E:Hid (ticksE a b s=0):=by show _=_;unfold ticksE;rw[if_neg (by rw[h];simp)]
  clear h;go_enter func41,ntmps41;go_wp2_with fail;refine(ki _ _ H.out _).mono ?_;rintro e m ⟨rfl,d⟩;have l:=d.size;go_wp2
  go_ret;exact⟨by rw[E.out];rfl,ad⟩
 ·have H:=Lh h;have k:=Lh f;have E:Hid (ticksE a b s=0):=by show _=_;unfold ticksE;rw[if_neg (by rw[f];simp)]
  clear h f;go_enter func41,ntmps41;go_wp2_with fail;refine(ki _ _ H.out _).mono ?_;rintro e m ⟨rfl,d⟩;have l:=d.size;go_wp2_with fail;refine(ki _ _ k.out _).mono ?_;rintro e o ⟨rfl,g⟩;have n:=g.size;go_wp2
  go_ret;exact⟨by rw[E.out];rfl,ad⟩
 ·have H:=Lh h;have k:=Lh f;have i:=Lh c;have E:Hid (ticksE a b s=0):=by show _=_;unfold ticksE;rw[if_neg (by rw[c];simp)]
  clear h f c;go_enter func41,ntmps41;go_wp2_with fail;refine(ki _ _ H.out _).mono ?_;rintro e m ⟨rfl,d⟩;have l:=d.size;go_wp2_with fail;refine(ki _ _ k.out _).mono ?_;rintro e o ⟨rfl,g⟩;have n:=g.size;go_wp2_with fail;refine(ki _ _ i.out _).mono ?_;rintro e q ⟨rfl,j⟩;have p:=j.size;go_wp2
  go_ret;exact⟨by rw[E.out];rfl,ad⟩
 ·have H:=Lh h;have k:=Lh f;have i:=Lh c;have E:Hid (ticksE a b s=max 0 (b-a)+2*s+1):=by show _=_;unfold ticksE;rw[if_pos ⟨h,f,c⟩]
  obtain⟨y,t⟩:=(zD a).1 h;obtain⟨v,x⟩:=(zD b).1 f;obtain⟨r,u⟩:=(zD s).1 c;clear h f c;go_enter func41,ntmps41;go_wp2_with fail;refine(ki _ _ H.out _).mono ?_;rintro e m ⟨rfl,d⟩;have l:=d.size;go_wp2_with fail;refine(ki _ _ k.out _).mono ?_;rintro e o ⟨rfl,g⟩;have n:=g.size;go_wp2_with fail;refine(ki _ _ i.out _).mono ?_;rintro e q ⟨rfl,j⟩;have p:=j.size;go_wp2
  go_ret;exact⟨by rw[E.out];rfl,ad⟩
theorem Me(a b s k:Int)(h:ticksE a b s=k)(w:World):zR 41 #[a,b,s] w (.int .i64 k):=by
 subst h;exact QQ a b s w
theorem at_cases(m:Bool)(a b v s:Int):m=false∨(m=true/\cA a=false)∨(m=true/\cA a=true/\cA b=false)∨(m=true/\cA a=true/\cA b=true/\cA s=false)∨
  (m=true/\cA a=true/\cA b=true/\cA s=true/\v<0)∨(m=true/\cA a=true/\cA b=true/\cA s=true/\¬v<0/\4194304<v)∨(m=true/\cA a=true/\cA b=true/\cA s=true/\¬v<0/\¬4194304<v):=by
 cases m<;>cases cA a<;>cases cA b<;>cases cA s<;>simp<;>omega
theorem Vz(x y a b d t u v s:Int)(w:World):zR 16 #[elC x y a b d,t,u,v,s] w (.tuple #[elV (atE ⟨x,y,a,b,d⟩ t u v s).1,.int .i64 (atE ⟨x,y,a,b,d⟩ t u v s).2]):=by
 obtain⟨m,L⟩:∃m,El.may ⟨x,y,a,b,d⟩=m:=⟨_,rfl⟩;have O:=Lh L;rcases at_cases m t u v s with rfl|⟨rfl,C⟩|⟨rfl,C,D⟩|⟨rfl,C,D,G⟩|⟨rfl,C,D,G,h4⟩|⟨rfl,C,D,G,h4,h5⟩|⟨rfl,C,D,G,h4,h5⟩
 case inl=>
  have H:Hid (atE ⟨x,y,a,b,d⟩ t u v s=(El.zero,1)):=by show _=_;unfold atE;rw[if_neg (by rw[L];simp)]
  clear L;go_enter func16,ntmps16;go_wp2_with fail;refine(aN _ _ _ _ _ _ O.out _).mono ?_;rintro e Q ⟨rfl,c⟩;have g:=c.size;(try simp at g);have W:=bq2 c (w.heap.size);go_wp2_with fail;exact rT 5 z5 (.int .i64 1) ⟨by rw[H.out];rfl,ad⟩
 case inr.inr.inr.inr.inr.inr=>
  obtain⟨n,V⟩:∃n,ticksE t u s=n:=⟨_,rfl⟩;have nl:=Jj t u s;rw[V] at nl;obtain⟨⟨ox,oy,oa,ob,od⟩,k,ho⟩:∃o k,ageE ⟨x,y,a,b,d⟩ v n=(o,k):=⟨_,_,rfl⟩;have H:Hid (atE ⟨x,y,a,b,d⟩ t u v s=(⟨ox,oy,oa,ob,od⟩,k)):=by show _=_;unfold atE;rw[if_pos ⟨L,C,D,G,by omega,by omega⟩,V,ho]
  have K:=Lh C;have M:=Lh D;have P:=Lh G;have HN:=Lh V;have HO:=Lh ho;have NL:Hid (n<=9223372036854775807):=by show n<=_;omega
  clear L C D G V ho nl;go_enter func16,ntmps16;go_wp2_with fail;refine(aN _ _ _ _ _ _ O.out _).mono ?_;rintro e Q ⟨rfl,c⟩;have g:=c.size;(try simp at g);have r:=bq c (w.heap.size);have z:=bq c (w.heap.size+1);go_wp2_with fail;refine(ki _ _ K.out _).mono ?_;rintro e T ⟨rfl,f⟩;have j:=f.size;(try simp at j);have X:=bq2 f (w.heap.size);go_wp2_with fail;refine(ki _ _ M.out _).mono ?_;rintro e Y ⟨rfl,i⟩;have p:=i.size;(try simp at p);have U:=bq2 i (w.heap.size);go_wp2_with fail;refine(ki _ _ P.out _).mono ?_;rintro e N ⟨rfl,l⟩;have q:=l.size;(try simp at q);have Z:=bq2 l (w.heap.size);go_wp2_with fail;have c0:=@ci _ _ _ (show N.cell? ⟨w.heap.size,0,none⟩=some (.int .i64 x) from(by go_simp));have c1:=@ci _ _ _ (show N.cell? ⟨w.heap.size,1,none⟩=some (.int .i64 y) from(by go_simp));have c2:=@ci _ _ _ (show N.cell? ⟨w.heap.size,2,none⟩=some (.int .i64 a) from(by go_simp));have c3:=@ci _ _ _ (show N.cell? ⟨w.heap.size,3,none⟩=some (.int .i64 b) from(by go_simp));have c4:=@ci _ _ _ (show N.cell? ⟨w.heap.size,4,none⟩=some (.int .i64 d) from(by go_simp));refine aB 9 (fun _=>none) (fun _=>[]) (by kernel_rfl) (by kernel_rfl) ?_;apply Eb;apply Eb;apply Eb;apply Eb;apply Eb;apply Eb;apply Eb;apply Eb;apply Eb;refine⟨[],fun gg NN hN=>?_⟩;simp only[List.take_succ_cons,List.take_zero,List.drop_succ_cons,List.drop_zero];(repeat (refine bi rfl ?_;go_big_quiet_step (first|exact rfl|(first|(go_at_call 41;exact aF (Me _ _ _ _ HN.out _))|(go_at_call 40;exact aF (Vg _ _ _ _ _ _ _ _ _ _ _ _ _ NL.out HO.out _))));refine wpQuiet_nil ⟨rfl,?_⟩));refine bF ?_;intro w5 S hh _;clear hh;have R:=S.size;(try simp at R);have a0:=bq2 S (w.heap.size);go_wp2_with fail;exact rT 5 #[.int .i64 ox,.int .i64 oy,.int .i64 oa,.int .i64 ob,.int .i64 od] (.int .i64 k) ⟨by rw[H.out],ad⟩
 case inr.inl=>
  have H:Hid (atE ⟨x,y,a,b,d⟩ t u v s=(El.zero,1)):=by show _=_;unfold atE;rw[if_neg (by rintro⟨-,h,-⟩;rw[C] at h;cases h)]
  have K:=Lh C;clear L C;go_enter func16,ntmps16;go_wp2_with fail;refine(aN _ _ _ _ _ _ O.out _).mono ?_;rintro e Q ⟨rfl,c⟩;have g:=c.size;(try simp at g);have r:=bq c (w.heap.size);have z:=bq c (w.heap.size+1);go_wp2_with fail;refine(ki _ _ K.out _).mono ?_;rintro e T ⟨rfl,f⟩;have j:=f.size;(try simp at j);have A:=bq f (w.heap.size);have B:=bq f (w.heap.size+1);go_wp2_with fail;exact rT 5 z5 (.int .i64 1) ⟨by rw[H.out];rfl,ad⟩
 case inr.inr.inl=>
  have H:Hid (atE ⟨x,y,a,b,d⟩ t u v s=(El.zero,1)):=by show _=_;unfold atE;rw[if_neg (by rintro⟨-,-,h,-⟩;rw[D] at h;cases h)]
  have K:=Lh C;have M:=Lh D;clear L C D;go_enter func16,ntmps16;go_wp2_with fail;refine(aN _ _ _ _ _ _ O.out _).mono ?_;rintro e Q ⟨rfl,c⟩;have g:=c.size;(try simp at g);have r:=bq c (w.heap.size);have z:=bq c (w.heap.size+1);go_wp2_with fail;refine(ki _ _ K.out _).mono ?_;rintro e T ⟨rfl,f⟩;have j:=f.size;(try simp at j);have A:=bq f (w.heap.size);have B:=bq f (w.heap.size+1);go_wp2_with fail;refine(ki _ _ M.out _).mono ?_;rintro e Y ⟨rfl,i⟩;have p:=i.size;(try simp at p);have E:=bq i (w.heap.size);have F:=bq i (w.heap.size+1);go_wp2_with fail;exact rT 5 z5 (.int .i64 1) ⟨by rw[H.out];rfl,ad⟩
 case inr.inr.inr.inl=>
  have H:Hid (atE ⟨x,y,a,b,d⟩ t u v s=(El.zero,1)):=by show _=_;unfold atE;rw[if_neg (by rintro⟨-,-,-,h,-⟩;rw[G] at h;cases h)]
  have K:=Lh C;have M:=Lh D;have P:=Lh G;clear L C D G;go_enter func16,ntmps16;go_wp2_with fail;refine(aN _ _ _ _ _ _ O.out _).mono ?_;rintro e Q ⟨rfl,c⟩;have g:=c.size;(try simp at g);have r:=bq c (w.heap.size);have z:=bq c (w.heap.size+1);go_wp2_with fail;refine(ki _ _ K.out _).mono ?_;rintro e T ⟨rfl,f⟩;have j:=f.size;(try simp at j);have A:=bq f (w.heap.size);have B:=bq f (w.heap.size+1);go_wp2_with fail;refine(ki _ _ M.out _).mono ?_;rintro e Y ⟨rfl,i⟩;have p:=i.size;(try simp at p);have E:=bq i (w.heap.size);have F:=bq i (w.heap.size+1);go_wp2_with fail;refine(ki _ _ P.out _).mono ?_;rintro e N ⟨rfl,l⟩;have q:=l.size;(try simp at q);have I:=bq l (w.heap.size);have J:=bq l (w.heap.size+1);go_wp2_with fail;exact rT 5 z5 (.int .i64 1) ⟨by rw[H.out];rfl,ad⟩
 case inr.inr.inr.inr.inl=>
  have H:Hid (atE ⟨x,y,a,b,d⟩ t u v s=(El.zero,1)):=by show _=_;unfold atE;rw[if_neg (by rintro⟨-,-,-,-,h,-⟩;omega)]
  have K:=Lh C;have M:=Lh D;have P:=Lh G;clear L C D G;go_enter func16,ntmps16;go_wp2_with fail;refine(aN _ _ _ _ _ _ O.out _).mono ?_;rintro e Q ⟨rfl,c⟩;have g:=c.size;(try simp at g);have r:=bq c (w.heap.size);have z:=bq c (w.heap.size+1);go_wp2_with fail;refine(ki _ _ K.out _).mono ?_;rintro e T ⟨rfl,f⟩;have j:=f.size;(try simp at j);have A:=bq f (w.heap.size);have B:=bq f (w.heap.size+1);go_wp2_with fail;refine(ki _ _ M.out _).mono ?_;rintro e Y ⟨rfl,i⟩;have p:=i.size;(try simp at p);have E:=bq i (w.heap.size);have F:=bq i (w.heap.size+1);go_wp2_with fail;refine(ki _ _ P.out _).mono ?_;rintro e N ⟨rfl,l⟩;have q:=l.size;(try simp at q);have I:=bq l (w.heap.size);have J:=bq l (w.heap.size+1);go_wp2_with fail;exact rT 5 z5 (.int .i64 1) ⟨by rw[H.out];rfl,ad⟩
 case inr.inr.inr.inr.inr.inl=>
  have H:Hid (atE ⟨x,y,a,b,d⟩ t u v s=(El.zero,1)):=by show _=_;unfold atE;rw[if_neg (by rintro⟨-,-,-,-,-,h⟩;omega)]
  have K:=Lh C;have M:=Lh D;have P:=Lh G;clear L C D G;go_enter func16,ntmps16;go_wp2_with fail;refine(aN _ _ _ _ _ _ O.out _).mono ?_;rintro e Q ⟨rfl,c⟩;have g:=c.size;(try simp at g);have r:=bq c (w.heap.size);have z:=bq c (w.heap.size+1);go_wp2_with fail;refine(ki _ _ K.out _).mono ?_;rintro e T ⟨rfl,f⟩;have j:=f.size;(try simp at j);have A:=bq f (w.heap.size);have B:=bq f (w.heap.size+1);go_wp2_with fail;refine(ki _ _ M.out _).mono ?_;rintro e Y ⟨rfl,i⟩;have p:=i.size;(try simp at p);have E:=bq i (w.heap.size);have F:=bq i (w.heap.size+1);go_wp2_with fail;refine(ki _ _ P.out _).mono ?_;rintro e N ⟨rfl,l⟩;have q:=l.size;(try simp at q);have I:=bq l (w.heap.size);have J:=bq l (w.heap.size+1);go_wp2_with fail;exact rT 5 z5 (.int .i64 1) ⟨by rw[H.out];rfl,ad⟩
theorem Vy(x y a b d t u v s e f c i g k:Int)(h:atE ⟨x,y,a,b,d⟩ t u v s=(⟨e,f,c,i,g⟩,k))(w:World):zR 16 #[elC x y a b d,t,u,v,s] w (.tuple #[elC e f c i g,k]):=by
 have:=Vz x y a b d t u v s w;rw[h] at this;exact this
structure Cfg where
 nodes:Int
 table:Int
 speed:Int
 err:Int
 skew:Int
 drift:Int
 stale:Int
 silent:Int
 every:Int
 rate:Int
 cap:Int
def ks(n lo hi:Int):Bool:=decide (lo<=n)&&decide (n<=hi)
def Cfg.may(c:Cfg):Bool:=
 ks c.nodes 1 64&&ks c.table 1 64&&ks c.speed 0 1000&&ks c.err 0 1000&&ks c.drift 0 1000&&ks c.skew 0 100&&ks c.stale 1 1000&&ks c.every 1 1000&&ks c.silent 1 10000&&ks c.rate 1 100&&ks c.cap 2 140737488355328&&decide (c.rate*(c.stale+2*c.skew+2)<=32767)
def ij(s:Int):Bool:=decide (0<=s)&&decide (s<=65535)
def sc(s:Int):Int:=if ij s then (s+1)%65536 else 0
def serDiff(a b:Int):Int:=if ij a&&ij b then (if 32768<(b-a)%65536 then (b-a)%65536-65536 else (b-a)%65536) else 0
def sh(a b:Int):Bool:=decide (0<serDiff a b)&&decide (serDiff a b<32768)
structure Ca where
 any:Bool
 last:Int
 seen:Nat
def Ca.bit(w:Ca)(s:Int):Nat:=let d:=-serDiff w.last s;if d<0∨64<=d then 0 else 2^d.toNat
def Ca.hear(w:Ca)(s:Int):Ca×Int:=
 if ij s=false then (w,1)
 else if w.any=false then (⟨true,s,1⟩,0)
 else if serDiff w.last s=32768 then (w,9)
 else if 0<serDiff w.last s then (⟨w.any,s,(w.seen<<<(serDiff w.last s).toNat)%18446744073709551616|||1⟩,0)
 else if w.bit s=0∨w.seen&&&w.bit s≠0 then (w,9)
 else (⟨w.any,w.last,w.seen|||w.bit s⟩,0)
structure Cf where
 every:Int
 next:Int
def Cf.new(every:Int):Cf:=⟨max 1 (min every 1000000),0⟩
def Cf.due(t:Cf)(now:Int):Cf×Bool:=if now<t.next∨1000000<now then (t,false) else (⟨t.every,now+t.every⟩,true)
structure Am where
 n:Int
 left:Int
def Am.new(n:Int):Am:=⟨max 0 (min n 1000),max 0 (min n 1000)⟩
def Am.take(b:Am):Am×Bool:=if b.left=0 then (b,false) else (⟨b.n,b.left-1⟩,true)
def btw(n lo hi:Int):Int:=max lo (min n hi)
def localF(skew t:Int):Int:=btw (btw t 0 1000000+btw skew (-1000000) 1000000) 0 1000000
def Ab(drift off g:Int):Int×Int:=
 if ks drift (-1000) 1000&&ks off 0 70368744177664&&ks g 0 70368744177664 then ((g*(1000000+drift)).fdiv 1000000+off,0) else (0,1)
def spanF(d drift:Int):(Int×Int)×Int:=
 if ks d 0 70368744177664&&ks drift 0 1000 then (((max 0 (d-1)*1000000).fdiv (1000000+drift),cdiv ((d+1)*1000000) (1000000-drift)),0) else ((0,0),1)
structure HalfD where
 st:Int
 fr:Int
 til:Int
 mrk:Int
 sp:Int
def HalfD.zero:HalfD:=⟨0,0,0,0,0⟩
structure cZ where
 ask:HalfD
 tell:HalfD
def cZ.new:cZ:=⟨.zero,.zero⟩
def ot(t:Int):Bool:=decide (0<=t)&&decide (t<=70368744177664)
def begunF(at_ mark stamp:Int):HalfD:=if ot at_ then ⟨1,at_,0,mark,stamp⟩ else .zero
def HalfD.answer(h:HalfD)(at_:Int):HalfD×Bool:=if h.st≠1∨ot at_=false∨at_<h.fr then (h,false) else ({h with st:=2,til:=at_},true)
def HalfD.ends(h:HalfD)(at_:Int):Bool:=decide (h.st=2)&&ot at_&&decide (h.til<=at_)
def cZ.poll(s:cZ)(at_ mark:Int):cZ:={s with ask:=begunF at_ mark 0}
def cZ.gotResp(s:cZ)(at_ mark:Int):cZ×Bool:=if s.ask.mrk=mark then ({s with ask:=(s.ask.answer at_).1},(s.ask.answer at_).2) else (s,false)
def cZ.final(s:cZ)(at_:Int):cZ×(Int×Int×Bool):=if s.ask.ends at_ then ({s with ask:=.zero},(s.ask.til-s.ask.fr,at_-s.ask.til,true)) else (s,(0,0,false))
def cZ.gotPoll(s:cZ)(at_ stamp:Int):cZ:={s with tell:=begunF at_ 0 stamp}
def cZ.resp(s:cZ)(at_ mark:Int):cZ×Bool:=if (s.tell.answer at_).2 then ({s with tell:={(s.tell.answer at_).1 with mrk:=mark}},true) else (s,false)
structure Oh where
 ra:Int
 db:Int
 da:Int
 rb:Int
def cZ.gotFinal(s:cZ)(at_ ra da mark:Int):cZ×(Oh×Int×Bool):=
 if s.tell.mrk=mark/\s.tell.ends at_=true then ({s with tell:=.zero},(⟨ra,s.tell.til-s.tell.fr,da,at_-s.tell.til⟩,s.tell.sp,true)) else (s,(⟨0,0,0,0⟩,0,false))
def twrRange(t:Oh)(drift slack:Int):(Int×Int)×Int:=
 if drift<0∨1000<drift∨slack<0∨4194304<slack then ((0,0),1)
 else if (spanF t.ra drift).2≠0∨(spanF t.db drift).2≠0∨(spanF t.rb drift).2≠0∨(spanF t.da drift).2≠0 then ((0,0),1)
 else
  let l0:=(spanF t.ra drift).1;let l1:=(spanF t.db drift).1;let l2:=(spanF t.rb drift).1;let l3:=(spanF t.da drift).1
  let lo:=max 0 ((max (l0.1-l1.2) (l2.1-l3.2)).fdiv 2-slack)
  let hi:=cdiv (min (l0.2-l1.1) (l2.2-l3.1)) 2+1+slack
  if hi<lo then ((0,0),3) else if 4194304<hi then ((0,0),2) else ((lo,hi),0)
structure NxD where
 least:Int
 any:Bool
 next:Int
 behind:Bool
def nxStep(after:Int)(s:NxD)(n:Int):NxD:=
 let s1:NxD:=if s.any=false∨n<s.least then {s with least:=n,any:=true} else s
 if after<n/\(s1.behind=false∨n<s1.next) then {s1 with next:=n,behind:=true} else s1
def nextF(ids:List Int)(after:Int):Int×Bool:=
 let s:=ids.foldl (nxStep after) ⟨0,false,0,false⟩
 if s.behind then (s.next,true) else (s.least,s.any)
def freshF(stamp now stale skew:Int):Int:=
 if cA stamp=false∨cA now=false∨cA stale=false∨cA skew=false then 1 else if stamp+stale<now∨now+2*skew<stamp then 9 else 0
structure EntD where
 node:Int
 boot:Int
 heard:Int
 has:Bool
 e:El
 when:Int
def EntD.zero:EntD:=⟨0,0,0,false,.zero,0⟩
structure Ja where
 boot:Int
 left:Bool
 w:Ca
def lk{α:Type}(m:List (Int×α))(k:Int):Option α:=(m.find? (fun p=>decide (p.1=k))).map (·.2)
def del{α:Type}(m:List (Int×α))(k:Int):List (Int×α):=m.filter (fun p=>! decide (p.1=k))
def Ic{α:Type}(x:Int×α):List (Int×α)->List (Int×α)
 | []=>[x]
 | y :: r=>if x.1<y.1 then x :: y :: r else y :: Ic x r
def ins{α:Type}(m:List (Int×α))(k:Int)(v : α):List (Int×α):=Ic (k,v) (del m k)
structure cB where
 most:Int
 ents:List (Int×EntD)
 lives:List (Int×Ja)
def cB.new(most:Int):cB:=⟨max 1 (min most 64),[],[]⟩
def cB.all(t:cB):List EntD:=t.ents.map (·.2)
def elderF:List EntD->EntD
 | []=>.zero
 | x :: r=>r.foldl (fun m y=>if y.heard<m.heard∨y.heard=m.heard/\y.node<m.node then y else m) x
def cB.begin(t:cB)(n boot:Int):cB×(Ja×Int):=
 match lk t.lives n with
 | some l=>
  if l.boot=boot then (if l.left then (t,(⟨0,false,⟨false,0,0⟩⟩,9)) else (t,(l,0)))
  else if sh l.boot boot=false then (t,(⟨0,false,⟨false,0,0⟩⟩,9))
  else ({t with ents:=match lk t.ents n with|some x=>ins t.ents n ⟨n,x.boot,x.heard,false,.zero,0⟩|none=>t.ents},(⟨boot,false,⟨false,0,0⟩⟩,0))
 | none=>({t with ents:=match lk t.ents n with|some x=>ins t.ents n ⟨n,x.boot,x.heard,false,.zero,0⟩|none=>t.ents},(⟨boot,false,⟨false,0,0⟩⟩,0))
def cB.hear(t:cB)(n boot seq now:Int):cB×Int:=
 if nodeB n=false∨ij boot=false∨ij seq=false∨cA now=false then (t,1)
 else if (t.begin n boot).2.2≠0 then ((t.begin n boot).1,(t.begin n boot).2.2)
 else
  let t1:=(t.begin n boot).1;let l:=(t.begin n boot).2.1
  let t2:cB:={t1 with lives:=ins t1.lives n {l with w:=(l.w.hear seq).1}}
  if (l.w.hear seq).2≠0 then (t2,(l.w.hear seq).2)
  else
   match lk t2.ents n with
   | some x=>({t2 with ents:=ins t2.ents n {x with node:=n,boot:=boot,heard:=now}},0)
   | none=>
    let es:=if t2.most<=t2.ents.length then del t2.ents (elderF t2.all).node else t2.ents
    ({t2 with ents:=ins es n ⟨n,boot,now,false,.zero,0⟩},0)
def cB.leave(t:cB)(n:Int):cB×Bool:=
 match lk t.lives n with
 | some l=>({t with lives:=ins t.lives n {l with left:=true},ents:=del t.ents n},true)
 | none=>(t,false)
def cB.put(t:cB)(n:Int)(e:El)(when:Int):cB×Int:=
 match lk t.ents n with
 | none=>(t,7)
 | some x=>if e.may=false∨cA when=false then (t,1) else ({t with ents:=ins t.ents n {x with has:=true,e:=e,when:=when}},0)
def Cp(silent now:Int)(x:EntD):Bool:=decide (max 1 silent<=now)&&decide (x.heard<=now-max 1 silent)
def cB.tx(t:cB)(now silent:Int):cB:={t with ents:=t.ents.filter (fun p=>! Cp silent now p.2)}
theorem A5(a b:Int)(h:0<b):a.fdiv b=a/b:=Int.fdiv_eq_ediv_of_nonneg a (by omega)
theorem IY{d a g t:Int}(h:Ab d a g=(t,0)):(-1000<=d/\d<=1000)/\(t-a)*1000000<=g*(1000000+d)/\g*(1000000+d)<(t-a+1)*1000000:=by
 unfold Ab at h;split at h
 ·rename_i b;simp only[ks,Bool.and_eq_true,decide_eq_true_eq] at b;injection h with h1 h2
  have e:=A5 (g*(1000000+d)) 1000000 (by decide);rw[e] at h1;generalize g*(1000000+d)=X at h1 ⊢;exact⟨by omega,by omega,by omega⟩
 ·injection h with _ h2;cases h2
theorem A9{d g x y a b D c n l:Int}(s:Ab d g x=(a,0))(u:Ab d g y=(b,0))(p:x<=y)(A:D=b-a)(E : -c<=d)(i:d<=c)(f:spanF D c=((n,l),0)):n<=y-x/\y-x<=l:=by
 obtain⟨-,H,v⟩:=IY s;obtain⟨-,F,G⟩:=IY u;unfold spanF at f;split at f
 ·rename_i k;simp only[ks,Bool.and_eq_true,decide_eq_true_eq] at k;obtain⟨⟨w,z⟩,B,J⟩:=k;injection f with f _
  injection f with hl hh
  have I:(D-1)*1000000<=(y-x)*(1000000+d):=by
   have e:(y-x)*(1000000+d)=y*(1000000+d)-x*(1000000+d):=by rw[Int.sub_mul]
   rw[e];omega
  have t:(y-x)*(1000000+d)<=(D+1)*1000000:=by
   have e:(y-x)*(1000000+d)=y*(1000000+d)-x*(1000000+d):=by rw[Int.sub_mul]
   rw[e];omega
  have C:(y-x)*(1000000+d)<=(y-x)*(1000000+c):=Int.mul_le_mul_of_nonneg_left (by omega) (by omega);have o:(y-x)*(1000000-c)<=(y-x)*(1000000+d):=Int.mul_le_mul_of_nonneg_left (by omega) (by omega);constructor
  ·rw[<-hl,A5 _ _ (by omega)];refine Int.ediv_le_of_le_mul (by omega) ?_;by_cases r:0<=D-1
   ·rw[Int.max_eq_right r];omega
   ·rw[Int.max_eq_left (by omega)];have:=Int.mul_nonneg (show 0<=y-x by omega) (show 0<=1000000+c by omega);omega
  ·rw[<-hh];have m:=(dH ((D+1)*1000000) (1000000-c) (by omega)).1;rw[Int.mul_comm (1000000-c)] at m;by_cases h:y-x<=cdiv ((D+1)*1000000) (1000000-c)
   ·exact h
   ·exfalso;have j:(cdiv ((D+1)*1000000) (1000000-c)+1)*(1000000-c)<=(y-x)*(1000000-c):=Int.mul_le_mul_of_nonneg_right (by omega) (by omega);rw[Int.add_mul] at j;have q:=Int.le_trans j (Int.le_trans o (Int.le_trans t m));generalize cdiv ((D+1)*1000000) (1000000-c)*(1000000-c)=Y at q;omega
 ·injection f with _ i;cases i
theorem MG{d db e f a b fl x i X1 X2 X3 X4:Int}(D:X1-X2=2*fl)(F:X3-X4=2*fl)(P:0<=fl)(J:∀l h,spanF d a=((l,h),0)->l<=X1/\X1<=h)(I:∀l h,spanF db a=((l,h),0)->l<=X2/\X2<=h)(E:∀l h,spanF e a=((l,h),0)->l<=X3/\X3<=h)(B:∀l h,spanF f a=((l,h),0)->l<=X4/\X4<=h)(h:twrRange ⟨d,db,f,e⟩ a b=((x,i),0)):∃u o,0<=u/\0<=o/\x=max 0 (fl-u)/\i=fl+1+o:=by
 unfold twrRange at h;split at h
 ·injection h with _ h2;cases h2
 rename_i L;split at h
 ·injection h with _ h2;cases h2
 rename_i c;obtain⟨⟨m,r⟩,t⟩:∃p,(spanF d a).1=p:=⟨_,rfl⟩;obtain⟨⟨y,k⟩,n⟩:∃p,(spanF db a).1=p:=⟨_,rfl⟩;obtain⟨⟨g,v⟩,ec⟩:∃p,(spanF e a).1=p:=⟨_,rfl⟩;obtain⟨⟨s,j⟩,w⟩:∃p,(spanF f a).1=p:=⟨_,rfl⟩;simp only at c h;have A:(spanF d a).2=0:=by rcases Int.decEq (spanF d a).2 0 with q|q;exact absurd (.inl q) c;exact q
 have G:(spanF db a).2=0:=by rcases Int.decEq (spanF db a).2 0 with q|q;exact absurd (.inr (.inl q)) c;exact q
 have C:(spanF e a).2=0:=by rcases Int.decEq (spanF e a).2 0 with q|q;exact absurd (.inr (.inr (.inl q))) c;exact q
 have H:(spanF f a).2=0:=by rcases Int.decEq (spanF f a).2 0 with q|q;exact absurd (.inr (.inr (.inr q))) c;exact q
 have M:=J m r (Prod.ext t A);have N:=I y k (Prod.ext n G);have R:=E g v (Prod.ext ec C);have Q:=B s j (Prod.ext w H);rw[t,n,ec,w] at h;simp only at h;have z:=A5 (max (m-k) (g-j)) 2 (by decide);have K:=dH (min (r-y) (v-s)) 2 (by decide);rw[z] at h;have O:0<=b:=by omega
 split at h
 ·injection h with _ h2;cases h2
 ·split at h
  ·injection h with _ h2;cases h2
  ·injection h with h _
   injection h with hl hh
   refine⟨fl-(max (m-k) (g-j))/2+b,i-fl-1,?_,?_,?_,by omega⟩<;>omega
structure ah (g:Nat) (w w':World):Prop where
 os:w'.os=w.os
 tape:w'.tape=w.tape
 output:w'.output=w.output
 size:w.heap.size<=w'.heap.size
 block:∀k,k<w.heap.size->k≠g->w'.heap[k]? = w.heap[k]?
section
variable {g:Nat} {w w' w'':World}
theorem ah.refl:ah g w w:=⟨rfl,rfl,rfl,Nat.le_refl _,fun _ _ _=>rfl⟩
theorem ah.of_below(h:zB w w'):ah g w w':=⟨h.os,h.tape,h.output,h.size,fun k a _=>h.block k a⟩
theorem ah.trans(h:ah g w w')(a:ah g w' w''):ah g w w'':=
 ⟨a.os.trans h.os,a.tape.trans h.tape,a.output.trans h.output,Nat.le_trans h.size a.size,fun k b c=>(a.block k (Nat.lt_of_lt_of_le b h.size) c).trans (h.block k b c)⟩
theorem ah.alloc(h:ah g w w')(o:Obj):ah g w (w'.alloc o):=
 ⟨h.os,h.tape,h.output,by have:=h.size;simp;omega,fun k a b=>(Below.heap_alloc w' o k (Nat.lt_of_lt_of_le a h.size)).trans (h.block k a b)⟩
theorem ah.drew(h:ah g w w'):ah g w w'.drew:=⟨h.os,h.tape,h.output,h.size,h.block⟩
theorem ah.setCell(h:ah g w w')(i:Nat)(v:Value):ah g w (w'.setCell ⟨g,i,none⟩ v):=
 ⟨h.os,h.tape,h.output,by have:=h.size;simpa using this,fun k b a=>(heap_setCell_other w' ⟨g,i,none⟩ k v a).trans (h.block k b a)⟩
theorem ah.fc(h:ah g w w'){b:Nat}(d:w.heap.size<=b)(i:Nat)(v:Value):ah g w (w'.setCell ⟨b,i,none⟩ v):=
 ⟨h.os,h.tape,h.output,by have:=h.size;simpa using this,fun k a c=>(heap_setCell_other w' ⟨b,i,none⟩ k v (by simp only;omega)).trans (h.block k a c)⟩
theorem ah.blk(h:ah g w w'){b:Nat}{c:Array Value}{t:TypeId}(hb:Blk w b c t)(a:b≠g):Blk w' b c t:=(h.block b hb.lt a).trans hb
theorem ah.below{B:Nat}{w0:World}(h:ah g w w')(hb:Below B w0 w)(hB:B<=w0.heap.size)(b:B<=g):Below B w0 w':=
 ⟨h.os.trans hb.os,h.tape.trans hb.tape,h.output.trans hb.output,Nat.le_trans hb.size h.size,fun k a=>(h.block k (by have:=hb.size;omega) (by omega)).trans (hb.block k a)⟩
end
theorem dY{g:Nat}{w a:World}(h:ah g w a:=by repeat (first|with_reducible exact ah.refl|with_reducible refine ah.drew ?_|with_reducible refine ah.setCell ?_ _ _|(with_reducible refine ah.fc ?_ ?hB _ _;case hB=>(first|omega|(simp;done)|(simp;omega)))|with_reducible refine ah.alloc ?_ _|with_reducible refine ah.trans ?_ (ah.of_below (by assumption))|with_reducible refine ah.trans ?_ (by assumption))):ah g w a:=h
theorem cz{w:World}{b:Nat}{c:Array Value}{t:TypeId}(h:Blk w b c t):b<w.heap.size/\(∀o,w.cell? ⟨b,o,none⟩=c[o]?)/\(∀o,w.frozen? ⟨b,o,none⟩=false)/\w.row? b 0 c.size=some c:=
 ⟨h.lt,h.at,h.frozen,h.row?_all _ rfl⟩
end Go.Proofs.YtechbdnhalmobaaGreatDoor
