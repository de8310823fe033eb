/- Walks. -/
import Derived.Test.YtechbdnhalmobaaGreatDoorA9
import Derived.Laws.BytesString
namespace Go.Proofs.YtechbdnhalmobaaGreatDoor
set_option maxRecDepth 100000
set_option maxHeartbeats 16000000
set_option linter.unusedSimpArgs false
set_option linter.unusedVariables false
open Go.RowKit
open Go.Proofs.Tryz
theorem PX(k s bo K B E C u D z x y a b d:Int)(hm:pl ⟨k,s,bo,K,B,E,C,u,D,z,x,y,a,b,d⟩=true)(w:World):Calls Tryz.prog 131 #[frC k s bo K B E C u D z x y a b d] w fun e X=>(∃v,e=.returned (.tuple #[v,.int .i64 0])/\Ai X (w.heap.size+1) v (nt ⟨k,s,bo,K,B,E,C,u,D,z,x,y,a,b,d⟩))/\zB w X:=by
 go_enter Tryz.func131,Tryz.ntmps131;go_wp2_with fail;refine jj ?_;intro u0 a4;obtain⟨g,G⟩:∃g,g=w.heap.size:=⟨_,rfl⟩;have q:Hid (Below g w u0):=by rw[a4,G];show zB w _;exact ad
 have l:Hid (Blk u0 g #[k,s,bo,K,B,E,C,u,D,z,x,y,a,b,d] 193):=by rw[a4,G];exact Blk.new _ _ _
 rw[<-G];have a9:=Lh G;clear a4 G;refine Calls.mono (DO ⟨k,s,bo,K,B,E,C,u,D,z,x,y,a,b,d⟩ _ hm _) ?_;rintro e w1 ⟨rfl,hb⟩;have hb:=Lh hb;replace q:=Lh (q.out.trans (hb.out.mono (Nat.le_trans (Nat.le_of_lt l.out.lt) (Nat.le_refl _))));replace l:=Lh (l.out.keep hb.out);obtain⟨N,a7⟩:∃N,N=w1:=⟨_,rfl⟩;rw[<-a7] at q l ⊢;clear a7 hb;have O:=l.out.lt;have q0:N.cell? ⟨g,0,none⟩=some (.int .i64 k):=l.out.cell rfl;have q1:N.cell? ⟨g,1,none⟩=some (.int .i64 s):=l.out.cell rfl;have q5:N.cell? ⟨g,5,none⟩=some (.int .i64 E):=l.out.cell rfl;have q8:N.cell? ⟨g,8,none⟩=some (.int .i64 D):=l.out.cell rfl;have b5:=Qh N #[.int .u8 97,.int .u8 108,.int .u8 105,.int .u8 49] 4 4;go_wp2_with fail;have a0:=om.lit (w:=N) (g+1) [97,108,105,49] (by intro c hc;simp at hc;omega) (4,5);have a8:Below (g+1) N (N.alloc (Obj.cells #[.int .u8 97,.int .u8 108,.int .u8 105,.int .u8 49] 5 (4,5))):=(Below.refl _ _).alloc (by omega) _;go_loopw [4,25] (fun t4 a1 wr=>∃j:Nat,j<=4/\a1=.int .i64 j/\Hid (om wr (g+1) t4 ([97,108,105,49]++flw 1 [k,s,E,D] j))/\Hid (Below (g+1) N wr)) (fun _ a1 _=>4-(intOf a1).toNat)
 case atStart=>exact⟨0,by omega,rfl,a0,a8⟩
 case round=>
  obtain⟨j,Z,rfl,r,f⟩:=hrel;have m:=LU 1 [k,s,E,D] j Z;have H:=f.out.size;by_cases A:j<4
  ·have Y:=Ij 1 [k,s,E,D] j A;have i0:=fun w=>(RS k s E D w).1;have i1:=fun w=>(RS k s E D w).2.1;have i2:=fun w=>(RS k s E D w).2.2.1;have i3:=fun w=>(RS k s E D w).2.2.2;rcases j with _|_|_|_|j
   all_goals first|(exfalso;omega)|skip
   all_goals go_wp2_with fail
   all_goals (refine Calls.mono (IF (g+1) _ _ _ 1 (by decide) _ r (by omega) (by rw[List.length_append,m];simp)) ?_;rintro e F ⟨⟨v',rfl,h⟩,i⟩)
   all_goals replace f:=Lh (f.out.trans i)
   all_goals simp only[List.getD_cons_zero,List.getD_cons_succ] at Y
   all_goals rw[List.append_assoc,<-Y] at h
   all_goals clear i r
   all_goals go_wp2_with fail
   all_goals go_roundw
   all_goals first|(refine⟨_,?_,?_,h,f⟩<;>first|omega|go_num)|((repeat apply Exists.intro);refine⟨⟨_,?_,?_,h,f⟩,rfl⟩<;>first|omega|go_num)|(simp[intOf];done)
  ·have h4:j=4:=by omega
   subst h4;obtain⟨P1,W⟩:∃P,P=[97,108,105,49]++flw 1 [k,s,E,D] 4:=⟨_,rfl⟩;have a6:P1.length=8:=by rw[W,List.length_append,m];rfl
   have b7:=Lh W;rw[<-W] at r;replace q:=Lh (q.out.trans (f.out.mono (Nat.le_succ _)));replace l:=Lh (l.out.below f.out (Nat.lt_succ_self _));obtain⟨J,n⟩:∃R,R=wr:=⟨_,rfl⟩;rw[<-n] at r q l ⊢;clear n f W m Z A H;clear O q0 q1 q5 q8 b5 a0 a8;have O:=l.out.lt;have q2:J.cell? ⟨g,2,none⟩=some (.int .i64 bo):=l.out.cell rfl;have q3:J.cell? ⟨g,3,none⟩=some (.int .i64 K):=l.out.cell rfl;go_wp2_with fail;go_cut [4] from 32 (fun s4 wc=>Hid (om wc (g+1) s4 (P1++be 2 bo++be 2 K))/\Hid (Below (g+1) J wc))
   case first=>
    go_region_held3 (fun X=>X.cell? ⟨g,2,none⟩=some (.int .i64 bo)/\X.cell? ⟨g,3,none⟩=some (.int .i64 K)) (go_simp)
     (first
      | (go_at_call 182;refine Calls.mono (IF (g+1) _ P1 _ 2 (by decide) _ (by repeat (first|with_reducible assumption|with_reducible refine Cy ?_|with_reducible refine Bg ?_)) (by first|omega|(simp;done)|(simp;omega)|fail) (by simp only[List.length_append,gF,a6];decide)) ?_;rintro e F ⟨⟨v',rfl,h⟩,i⟩;have b1:J.heap.size<=F.heap.size:=i.size;have c1:∀o,F.cell? ⟨g,o,none⟩=J.cell? ⟨g,o,none⟩:=fun o=>i.cell (p:=⟨g,o,none⟩) (Nat.lt_succ_self g))
      | (go_at_call 182;refine Calls.mono (IF (g+1) _ (P1++be 2 bo) _ 2 (by decide) _ (by repeat (first|with_reducible assumption|with_reducible refine Cy ?_|with_reducible refine Bg ?_)) (by first|omega|(simp;done)|(simp;omega)|fail) (by simp only[List.length_append,gF,a6];decide)) ?_;rintro e w3 ⟨⟨v',rfl,I⟩,t⟩;have c0:F.heap.size<=w3.heap.size:=t.size;have c2:∀o,w3.cell? ⟨g,o,none⟩=F.cell? ⟨g,o,none⟩:=fun o=>t.cell (p:=⟨g,o,none⟩) (Nat.lt_succ_self g)))
    go_wp2_with fail;go_meet;exact⟨I,(ze i).trans t⟩
   case rest=>
    obtain⟨h,f⟩:=hcut;obtain⟨P2,V⟩:∃P,P=P1++be 2 bo++be 2 K:=⟨_,rfl⟩;have b9:P2.length=12:=by rw[V];simp only[List.length_append,gF,a6]
    have c4:=Lh V;rw[<-V] at h;replace q:=Lh (q.out.trans (f.out.mono (Nat.le_succ _)));replace l:=Lh (l.out.below f.out (Nat.lt_succ_self _));clear V f r;clear O q2 q3;obtain⟨M,n⟩:∃R,R=wc:=⟨_,rfl⟩;rw[<-n] at h q l ⊢;clear n;have O:=l.out.lt;have q4:M.cell? ⟨g,4,none⟩=some (.int .i64 B):=l.out.cell rfl;have q6:M.cell? ⟨g,6,none⟩=some (.int .i64 C):=l.out.cell rfl;have q7:M.cell? ⟨g,7,none⟩=some (.int .i64 u):=l.out.cell rfl;have q9:M.cell? ⟨g,9,none⟩=some (.int .i64 z):=l.out.cell rfl;go_wp2_with fail;go_loopw [4,48] (fun t4 a5 wr=>∃j:Nat,j<=4/\a5=.int .i64 j/\Hid (om wr (g+1) t4 (P2++flw 8 [B,C,u,z] j))/\Hid (Below (g+1) M wr)) (fun _ a5 _=>4-(intOf a5).toNat)
    case atStart=>exact⟨0,by omega,rfl,by rw[show ∀x:List Nat,x++flw 8 [B,C,u,z] 0=x from fun x=>List.append_nil x];exact h,Below.refl _ _⟩
    case round=>
     obtain⟨j,Z,rfl,r,f⟩:=hrel;have m:=LU 8 [B,C,u,z] j Z;have H:=f.out.size;by_cases A:j<4
     ·have Y:=Ij 8 [B,C,u,z] j A;have i0:=fun w=>(KM B C u z w).1;have i1:=fun w=>(KM B C u z w).2.1;have i2:=fun w=>(KM B C u z w).2.2.1;have i3:=fun w=>(KM B C u z w).2.2.2;rcases j with _|_|_|_|j
      all_goals first|(exfalso;omega)|skip
      all_goals go_wp2_with fail
      all_goals (refine Calls.mono (IF (g+1) _ _ _ 8 (by decide) _ r (by omega) (by rw[List.length_append,m];simp;omega)) ?_;rintro e F ⟨⟨v',rfl,h⟩,i⟩)
      all_goals replace f:=Lh (f.out.trans i)
      all_goals simp only[List.getD_cons_zero,List.getD_cons_succ] at Y
      all_goals rw[List.append_assoc,<-Y] at h
      all_goals clear i r
      all_goals go_wp2_with fail
      all_goals go_roundw
      all_goals first|(refine⟨_,?_,?_,h,f⟩<;>first|omega|go_num)|((repeat apply Exists.intro);refine⟨⟨_,?_,?_,h,f⟩,rfl⟩<;>first|omega|go_num)|(simp[intOf];done)
     ·have h4:j=4:=by omega
      subst h4;obtain⟨P3,U⟩:∃P,P=P2++flw 8 [B,C,u,z] 4:=⟨_,rfl⟩;have a2:P3.length=44:=by rw[U,List.length_append,m];simp only[List.length_append,gF,b9]
      have b4:=Lh U;rw[<-U] at r;replace q:=Lh (q.out.trans (f.out.mono (Nat.le_succ _)));replace l:=Lh (l.out.below f.out (Nat.lt_succ_self _));obtain⟨L,n⟩:∃R,R=wr:=⟨_,rfl⟩;rw[<-n] at r q l ⊢;clear n f U m Z A H;clear O q4 q6 q7 q9 h;have O:=l.out.lt;have c8:L.cell? ⟨g,10,none⟩=some (.int .i64 x):=l.out.cell rfl;have b3:L.cell? ⟨g,11,none⟩=some (.int .i64 y):=l.out.cell rfl;go_wp2_with fail;go_cut [4] from 55 (fun s4 wc=>Hid (om wc (g+1) s4 (P3++be 4 x++be 4 y))/\Hid (Below (g+1) L wc))
      case first=>
       go_region_held3 (fun X=>X.cell? ⟨g,10,none⟩=some (.int .i64 x)/\X.cell? ⟨g,11,none⟩=some (.int .i64 y)) (go_simp)
        (first
         | (go_at_call 182;refine Calls.mono (IF (g+1) _ P3 _ 4 (by decide) _ (by repeat (first|with_reducible assumption|with_reducible refine Cy ?_|with_reducible refine Bg ?_)) (by first|omega|(simp;done)|(simp;omega)|fail) (by simp only[List.length_append,gF,a2];decide)) ?_;rintro e F ⟨⟨v',rfl,h⟩,i⟩;have b1:L.heap.size<=F.heap.size:=i.size;have c1:∀o,F.cell? ⟨g,o,none⟩=L.cell? ⟨g,o,none⟩:=fun o=>i.cell (p:=⟨g,o,none⟩) (Nat.lt_succ_self g))
         | (go_at_call 182;refine Calls.mono (IF (g+1) _ (P3++be 4 x) _ 4 (by decide) _ (by repeat (first|with_reducible assumption|with_reducible refine Cy ?_|with_reducible refine Bg ?_)) (by first|omega|(simp;done)|(simp;omega)|fail) (by simp only[List.length_append,gF,a2];decide)) ?_;rintro e w3 ⟨⟨v',rfl,I⟩,t⟩;have c0:F.heap.size<=w3.heap.size:=t.size;have c2:∀o,w3.cell? ⟨g,o,none⟩=F.cell? ⟨g,o,none⟩:=fun o=>t.cell (p:=⟨g,o,none⟩) (Nat.lt_succ_self g)))
       go_wp2_with fail;go_meet;exact⟨I,(ze i).trans t⟩
      case rest=>
       obtain⟨h,f⟩:=hcut;obtain⟨P4,Q⟩:∃P,P=P3++be 4 x++be 4 y:=⟨_,rfl⟩;have c6:P4.length=52:=by rw[Q];simp only[List.length_append,gF,a2]
       have c7:=Lh Q;rw[<-Q] at h;replace q:=Lh (q.out.trans (f.out.mono (Nat.le_succ _)));replace l:=Lh (l.out.below f.out (Nat.lt_succ_self _));clear Q f r;clear O c8 b3;obtain⟨S,n⟩:∃R,R=wc:=⟨_,rfl⟩;rw[<-n] at h q l ⊢;clear n;have O:=l.out.lt;have b6:S.cell? ⟨g,12,none⟩=some (.int .i64 a):=l.out.cell rfl;have b8:S.cell? ⟨g,13,none⟩=some (.int .i64 b):=l.out.cell rfl;have b2:S.cell? ⟨g,14,none⟩=some (.int .i64 d):=l.out.cell rfl;go_wp2_with fail;go_loopw [4,79] (fun t4 a3 wr=>∃j:Nat,j<=3/\a3=.int .i64 j/\Hid (om wr (g+1) t4 (P4++flw 8 [a,b,d] j))/\Hid (Below (g+1) S wr)) (fun _ a3 _=>3-(intOf a3).toNat)
       case atStart=>exact⟨0,by omega,rfl,by rw[show ∀x:List Nat,x++flw 8 [a,b,d] 0=x from fun x=>List.append_nil x];exact h,Below.refl _ _⟩
       case round=>
        obtain⟨j,Z,rfl,r,f⟩:=hrel;have m:=LU 8 [a,b,d] j Z;have H:=f.out.size;by_cases A:j<3
        ·have Y:=Ij 8 [a,b,d] j A;have i0:=fun w=>(Ud a b d w).1;have i1:=fun w=>(Ud a b d w).2.1;have i2:=fun w=>(Ud a b d w).2.2;rcases j with _|_|_|j
         all_goals first|(exfalso;omega)|skip
         all_goals go_wp2_with fail
         all_goals (refine Calls.mono (IF (g+1) _ _ _ 8 (by decide) _ r (by omega) (by rw[List.length_append,m];simp;omega)) ?_;rintro e F ⟨⟨v',rfl,h⟩,i⟩)
         all_goals replace f:=Lh (f.out.trans i)
         all_goals simp only[List.getD_cons_zero,List.getD_cons_succ] at Y
         all_goals rw[List.append_assoc,<-Y] at h
         all_goals clear i r
         all_goals go_wp2_with fail
         all_goals go_roundw
         all_goals first|(refine⟨_,?_,?_,h,f⟩<;>first|omega|go_num)|((repeat apply Exists.intro);refine⟨⟨_,?_,?_,h,f⟩,rfl⟩<;>first|omega|go_num)|(simp[intOf];done)
        ·have h4:j=3:=by omega
         subst h4;obtain⟨P5,T⟩:∃P,P=P4++flw 8 [a,b,d] 3:=⟨_,rfl⟩;have d0:P5.length=76:=by rw[T,List.length_append,m];simp only[List.length_append,gF,c6]
         have c5:=Lh T;rw[<-T] at r;replace q:=Lh (q.out.trans (f.out.mono (Nat.le_succ _)));replace l:=Lh (l.out.below f.out (Nat.lt_succ_self _));obtain⟨c9,n⟩:∃R,R=wr:=⟨_,rfl⟩;rw[<-n] at r q l ⊢;clear n f T m Z A H;clear O b6 b8 b2 h;have HP:Hid (Cb ⟨k,s,bo,K,B,E,C,u,D,z,x,y,a,b,d⟩=P5):=by show _=_;rw[c5.out,c7.out,b4.out,c4.out,b7.out];rfl
         have EV:Hid (nt ⟨k,s,bo,K,B,E,C,u,D,z,x,y,a,b,d⟩=P5++be 4 (crc P5)):=by show _=_;unfold nt;rw[HP.out]
         have O:=l.out.lt;go_wp2_with fail;refine Calls.mono (PK _ _ _ r.out.rd (by omega)) ?_;rintro e F ⟨rfl,i⟩;have I:=Lh (r.out.keep i);have hz:=i.size;replace q:=Lh (q.out.trans (i.mono (by omega)));clear i r;have d1:=J8 P5;go_wp2_with fail;refine Calls.mono (Rr (g+1) _ _ _ 4 (by decide) (by decide) _ I (by omega) (by omega)) ?_;rintro e w3 ⟨⟨v',rfl,c3⟩,t⟩;go_wp2_with fail;go_ret2
         refine⟨⟨_,rfl,?_⟩,?_⟩
         ·rw[EV.out,<-a9.out];exact c3.out
         ·show Below _ _ _;rw[<-a9.out];exact q.out.trans (t.mono (Nat.le_succ _))
def Hh(xs:List Nat):Value:=.string ⟨(xs.map UInt8.ofNat).toArray⟩
theorem Oc(l:List UInt8):(ByteArray.mk l.toArray).toList=l:=by rw [ByteArray.toList_eq]
theorem NF(a:List Nat):∀s:List UInt8,(a.map fun (c:Nat)=>(c:Int)).foldl (fun r n=>r.push (UInt8.ofNat n.toNat)) (ByteArray.mk s.toArray)=ByteArray.mk (s++a.map UInt8.ofNat).toArray:=by
 induction a with
 | nil=>intro s;simp
 | cons n a b=>
  intro s
  have h:(ByteArray.mk s.toArray).push (UInt8.ofNat n)=ByteArray.mk (s++[UInt8.ofNat n]).toArray:=by
   apply ByteArray.ext;simp[ByteArray.push]
  simp only[List.map_cons,List.foldl_cons,Int.toNat_natCast];rw[h,b,List.append_assoc];rfl
theorem J9{w:World}{v:Value}{f:List Nat}(h:RdB w v f):(convert 36 9 v).run prog w=.ok (Hh f) w:=by
 obtain⟨q,m,n,rfl,r,H⟩:=h;rw[run_convert_bytes_string w _ _ _ _ _ _ underlying36 underlying5 underlying9];by_cases i:f=[]
 ·subst i;cases m with
  | none=>rfl
  | some a=>
   rw[run_bytesToString w a _ _ [] (by simp[loadCells,loadCellsFrom])];rfl
 ·have p:=List.length_pos_iff.2 i;obtain⟨b,o,rfl,x,-⟩:=H 0 p
  have k:=run_loadCells_list (P:=prog) w ⟨b,o,none⟩ ((f.map fun (c:Nat)=>(c:Int)).map (Value.int .u8)) (fun j u g=>by
   rw[List.map_map,List.getElem?_map] at g;by_cases d:j<f.length
   ·rw[List.getElem?_eq_getElem d] at g;obtain rfl:=Option.some.inj g;obtain⟨t,s,e,_,l⟩:=H j d;cases e;rw[Addr.add_lit,l,List.getD_eq_getElem?_getD,List.getElem?_eq_getElem d];rfl
   ·rw[List.getElem?_eq_none (by omega)] at g;cases g)
  simp only[List.length_map] at k;rw[run_bytesToString w ⟨b,o,none⟩ _ _ (f.map fun (c:Nat)=>(c:Int)) (by simpa using k)];have:=NF f [];simp only[List.nil_append] at this;exact congrArg (fun z=>Result.ok (Value.string z) w) this
theorem ofNat_inj:∀(b a:List Nat),Byt b->Byt a->(b.map UInt8.ofNat=a.map UInt8.ofNat↔b=a):=by
 intro b;induction b with
 | nil=>intro a _ _;cases a<;>simp
 | cons c b i=>
  intro a f g;cases a with
  | nil=>simp
  | cons d a=>
   have j:=f c List.mem_cons_self;have k:=g d List.mem_cons_self;rw[List.map_cons,List.map_cons,List.cons.injEq,List.cons.injEq,i a (fun z e=>f z (List.mem_cons_of_mem _ e)) (fun z e=>g z (List.mem_cons_of_mem _ e))]
   have:UInt8.ofNat c=UInt8.ofNat d↔c=d:=by
    constructor
    ·intro h;have:=congrArg UInt8.toNat h;simp at this;omega
    ·rintro rfl;rfl
   rw[this]
theorem IJ(a b:List Nat)(d:Byt a)(c:Byt b)(t:TypeId)(w:World):(binOp .neq t (Hh a) (Hh b)).run prog w=.ok (.bool (decide (a≠b))) w:=by
 have:(!((a.map UInt8.ofNat)==(b.map UInt8.ofNat)))=decide (a≠b):=by
  rw[Bool.eq_iff_iff];simp[ofNat_inj a b d c]
 simp only[binOp,Hh,Op.stringOp,Oc,Sem.run_pure,this]
theorem I0{P:Program}(a:BinOp)(t:TypeId)(x y:Operand)(l m:List Nat)(w:World):(eqGuard a t x y (Hh l) (Hh m)).run P w=.ok () w:=by
 unfold eqGuard Hh;cases a<;>simp
theorem Hc{l:List Nat}(h:Byt l)(n:Nat):Byt (l.take n):=fun c a=>h c (List.mem_of_mem_take a)
theorem I5{l:List Nat}(h:Byt l)(n:Nat):Byt (l.drop n):=fun c a=>h c (List.mem_of_mem_drop a)
def nAt(l:List Nat)(off wd:Nat):Nat:=nb ((l.drop off).take wd)
def frL(l:List Nat):FrD:=
 {kind:=wrap64 (nAt l 4 1),src:=wrap64 (nAt l 5 1),dst:=wrap64 (nAt l 6 1),who:=wrap64 (nAt l 7 1),boot:=wrap64 (nAt l 8 2),seq:=wrap64 (nAt l 10 2),stamp:=wrap64 (nAt l 12 8),t1:=wrap64 (nAt l 20 8),t2:=wrap64 (nAt l 28 8),when:=wrap64 (nAt l 36 8),x:=wrap32 (nAt l 44 4),y:=wrap32 (nAt l 48 4),a:=wrap64 (nAt l 52 8),b:=wrap64 (nAt l 60 8),d:=wrap64 (nAt l 68 8)}
def FrD.zero:FrD:=⟨0,0,0,0,0,0,0,0,0,0,0,0,0,0,0⟩
def decE(l:List Nat):FrD×Int:=
 if l.length<80 then (FrD.zero,4)
 else if 80<l.length∨l.take 4≠[97,108,105,49] then (FrD.zero,5)
 else if nAt l 76 4≠crc (l.take 76) then (FrD.zero,6)
 else if pl (frL l)=true then (frL l,0) else (FrD.zero,5)
theorem JK(g:Nat)(v:Value)(l:List Nat)(b wd a:Nat)(d:a=b+wd)(f:0<wd)(i:a<=l.length)(j:l.length<=1000000)(w:World)(B:Blk w g #[v] 341)(h:RdB w v (l.drop b)):Calls prog 249 #[.pointer (some ⟨g,0,none⟩),.int .i64 (wd:Int)] w fun e w'=>(∃c,e=.returned (.int .i64 (wrap64 (nAt l b wd)))/\Blk w' g #[c] 341/\RdB w' c (l.drop a))/\ah g w w':=by
 subst d;have:=Mt g v (l.drop b) wd f (by rw[List.length_drop];omega) (by rw[List.length_drop];omega) w B h;rw[List.drop_drop] at this;exact this
theorem ON(g:Nat)(v:Value)(l:List Nat)(b a:Nat)(f:a=b+4)(i:a<=l.length)(j:l.length<=1000000)(w:World)(B:Blk w g #[v] 341)(h:RdB w v (l.drop b)):Calls prog 250 #[.pointer (some ⟨g,0,none⟩)] w fun e c=>(∃d,e=.returned (.int .i64 (wrap32 (nAt l b 4)))/\Blk c g #[d] 341/\RdB c d (l.drop a))/\ah g w c:=by
 subst f;have:=Rb g v (l.drop b) (by rw[List.length_drop];omega) (by rw[List.length_drop];omega) w B h;rw[List.drop_drop] at this;exact this
theorem RdB.cutL{w:World}{a:Option Addr}{d:Nat}{l:List Nat}(h:RdB w (.slice a l.length d) l)(n c:Nat)(k:n<=l.length)(s:n<=c):RdB w (.slice a n c) (l.take n):=by
 obtain⟨m,p,f,e,g,H⟩:=h;cases e;refine⟨Hc m n,a,c,by rw[List.length_take,Nat.min_eq_left k],by rw[List.length_take];omega,fun j i=>?_⟩;rw[List.length_take] at i;obtain⟨b,o,e,r,q⟩:=H j (by omega);refine⟨b,o,e,r,?_⟩;rw[q,List.getD_eq_getElem?_getD,List.getD_eq_getElem?_getD,List.getElem?_take_of_lt (by omega)]
theorem RdB.cutR{w:World}{b o a:Nat}{l:List Nat}(h:RdB w (.slice (some ⟨b,o,none⟩) l.length a) l)(k n c:Nat)(u:k+n=l.length)(r:n<=c):RdB w (.slice (some ⟨b,o+k,none⟩) n c) (l.drop k):=by
 obtain⟨i,m,d,e,f,H⟩:=h;cases e;refine⟨I5 i k,some ⟨b,o+k,none⟩,c,by rw[List.length_drop];congr 1;omega,by rw[List.length_drop];omega,fun j g=>?_⟩;rw[List.length_drop] at g;obtain⟨t,s,e,q,p⟩:=H (k+j) (by omega);cases e;refine⟨b,o+k,rfl,q,?_⟩;rw[Nat.add_assoc,p,List.getD_eq_getElem?_getD,List.getD_eq_getElem?_getD,List.getElem?_drop]
theorem U4(l:List Nat)(h:Byt l):nb l<256^l.length:=by
 induction l with
 | nil=>simp[nb]
 | cons c l a=>
  have f:=a (fun d b=>h d (List.mem_cons_of_mem _ b));have e:=h c List.mem_cons_self;rw[Mo,List.length_cons,Nat.pow_succ];have:c*256^l.length<=255*256^l.length:=Nat.mul_le_mul_right _ (by omega);omega
theorem Pl{l:List Nat}(h:Byt l)(a:l.length<=4):nb l<4294967296:=
 Nat.lt_of_lt_of_le (U4 l h) (by have:256^l.length<=256^4:=Nat.pow_le_pow_right (by decide) a;simpa using this)
theorem Blk.setCell_self{w:World}{b i:Nat}{c:Array Value}{t:TypeId}{v:Value}(h:Blk w b c t)(f:c[i]?=some v):w.setCell ⟨b,i,none⟩ v=w:=by
 have e:c.setIfInBounds i v=c:=by
  apply Array.ext
  ·simp
  ·intro j m l;rw[Array.getElem_setIfInBounds]
   ·split
    ·rename_i a;subst a;rw[Array.getElem?_eq_getElem l] at f;exact(Option.some.inj f).symm
    ·rfl
 have d:(w.setCell ⟨b,i,none⟩ v).heap=w.heap:=by
  apply Array.ext_getElem?;intro k;by_cases g:k=b
  ·subst g;exact(h.ab i v).trans (by rw[e];exact h.symm)
  ·exact heap_setCell_other _ _ _ _ g
 cases w;simp only[World.setCell] at d ⊢;rw[d]
theorem ah.Om{g:Nat}{w w':World}(h:ah g w.drew w'):ah g w w':=⟨h.os,h.tape,h.output,h.size,h.block⟩
theorem KC(N C:Nat)(d:N<4294967296)(c:C<4294967296):(wrap64 (N:Int) != IntKind.i64.wrap (C:Int))=decide (N≠C):=by
 have a:wrap64 (N:Int)=N:=by unfold wrap64;omega
 have b:IntKind.i64.wrap (C:Int)=C:=by rw[Hv];unfold wrap64;omega
 rw[a,b,Bool.eq_iff_iff];simp[Int.ofNat_inj]
theorem SZ(v:Value)(a:List Nat)(C:Nat)(w:World)(b:crc a=C)(h:RdB w v a)(c:a.length<=1000000):zR 183 #[v] w (.int .u32 (C:Int)):=by
 subst b;exact PK v a w h c
theorem Cx{g:Nat}{w w':World}{v u:Value}{l:List Nat}(h:ah g w w')(B:Blk w g #[u] 341)(R:RdB w v l)(s:∀n,u≠.int .u8 n:=by intro n h;cases h):RdB w' v l:=by
 obtain⟨p,r,f,rfl,q,H⟩:=R;refine⟨p,r,f,rfl,q,fun j m=>?_⟩;obtain⟨b,o,e,i,c⟩:=H j m
 have d:b≠g:=by
  rintro rfl;rw[B.at] at c;rcases hoj:o+j with _|k
  ·rw[hoj] at c;exact s _ (Option.some.inj c)
  ·rw[hoj,Array.getElem?_eq_none (by simp)] at c;cases c
 exact⟨b,o,e,Nat.lt_of_lt_of_le i h.size,(World.cell?_of_block (a:=⟨b,o+j,none⟩) (h.block b i d)).trans c⟩
theorem UY(k s bo g m l f c j h x y a b d n:Int)(i:Nat):(#[.int .i64 k,.int .i64 s,.int .i64 bo,.int .i64 g,.int .i64 m,.int .i64 l,.int .i64 f,.int .i64 c,.int .i64 j,.int .i64 h,.int .i64 x,.int .i64 y,.int .i64 a,.int .i64 b,.int .i64 d]:Array Value)[i]?≠some (.int .u8 n):=by
 intro e;rcases i with _|_|_|_|_|_|_|_|_|_|_|_|_|_|_|i
 all_goals first|(cases e;done)|(simp at e)
theorem Ct{g:Nat}{w w':World}{v:Value}{l:List Nat}{k s bo z E D t p C A x y a b d:Int}(h:ah g w w')(B:Blk w g #[k,s,bo,z,E,D,t,p,C,A,x,y,a,b,d] 193)(R:RdB w v l):RdB w' v l:=by
 obtain⟨q,u,i,rfl,r,H⟩:=R;refine⟨q,u,i,rfl,r,fun j n=>?_⟩;obtain⟨b,o,e,m,c⟩:=H j n
 have f:b≠g:=by
  rintro rfl;rw[B.at] at c;exact UY _ _ _ _ _ _ _ _ _ _ _ _ _ _ _ _ _ c
 exact⟨b,o,e,Nat.lt_of_lt_of_le m h.size,(World.cell?_of_block (a:=⟨b,o+j,none⟩) (h.block b m f)).trans c⟩
theorem wm(g:Nat)(v:Value)(l:List Nat)(b wd a:Nat)(z:Int)(d:a=b+wd)(i:wrap64 (nAt l b wd)=z)(k:0<wd)(f:a<=l.length)(j:l.length<=1000000)(w:World)(B:Blk w g #[v] 341)(h:RdB w v (l.drop b)):Calls prog 249 #[.pointer (some ⟨g,0,none⟩),.int .i64 (wd:Int)] w fun e w'=>(∃c,e=.returned (.int .i64 z)/\Blk w' g #[c] 341/\RdB w' c (l.drop a))/\ah g w w':=by
 subst i;exact JK g v l b wd a d k f j w B h
theorem Mj(g:Nat)(v:Value)(l:List Nat)(b a:Nat)(z:Int)(d:a=b+4)(i:wrap32 (nAt l b 4)=z)(f:a<=l.length)(j:l.length<=1000000)(w:World)(B:Blk w g #[v] 341)(h:RdB w v (l.drop b)):Calls prog 250 #[.pointer (some ⟨g,0,none⟩)] w fun e w'=>(∃c,e=.returned (.int .i64 z)/\Blk w' g #[c] 341/\RdB w' c (l.drop a))/\ah g w w':=by
 subst i;exact ON g v l b a d f j w B h
abbrev frZ:Value:=frC 0 0 0 0 0 0 0 0 0 0 0 0 0 0 0
theorem J6(v:Value)(l:List Nat)(w:World)(h:RdB w v l)(c:l.length<80):zR 193 #[v] w (.tuple #[frZ,.int .i64 4]):=by
 obtain⟨e,d,rfl⟩:=h.form;obtain⟨n,a⟩:∃n,l.length=n:=⟨_,rfl⟩;rw[a] at c ⊢;clear a h;have b:(n:Int)<80:=by omega
 go_enter func193,ntmps193;go_wp2_with fail;exact rT 15 #[.int .i64 0,.int .i64 0,.int .i64 0,.int .i64 0,.int .i64 0,.int .i64 0,.int .i64 0,.int .i64 0,.int .i64 0,.int .i64 0,.int .i64 0,.int .i64 0,.int .i64 0,.int .i64 0,.int .i64 0] (.int .i64 4) ⟨rfl,ad⟩ (j:=ek 14 _ rfl (by intro i b;rcases i with _|_|_|_|_|_|_|_|_|_|_|_|_|_|_|i;(go_simp);(go_simp);(go_simp);(go_simp);(go_simp);(go_simp);(go_simp);(go_simp);(go_simp);(go_simp);(go_simp);(go_simp);(go_simp);(go_simp);(go_simp);exact absurd b (by omega)))
theorem K9(v:Value)(l:List Nat)(w:World)(h:RdB w v l)(c:80<l.length):zR 193 #[v] w (.tuple #[frZ,.int .i64 5]):=by
 obtain⟨f,d,rfl⟩:=h.form;obtain⟨n,a⟩:∃n,l.length=n:=⟨_,rfl⟩;rw[a] at c ⊢;clear a h;have b:¬(n:Int)<80:=by omega
 have e:(80:Int)<(n:Int):=by omega
 go_enter func193,ntmps193;go_wp2_with fail;exact rT 15 #[.int .i64 0,.int .i64 0,.int .i64 0,.int .i64 0,.int .i64 0,.int .i64 0,.int .i64 0,.int .i64 0,.int .i64 0,.int .i64 0,.int .i64 0,.int .i64 0,.int .i64 0,.int .i64 0,.int .i64 0] (.int .i64 5) ⟨rfl,ad⟩ (j:=ek 14 _ rfl (by intro i b;rcases i with _|_|_|_|_|_|_|_|_|_|_|_|_|_|_|i;(go_simp);(go_simp);(go_simp);(go_simp);(go_simp);(go_simp);(go_simp);(go_simp);(go_simp);(go_simp);(go_simp);(go_simp);(go_simp);(go_simp);(go_simp);exact absurd b (by omega)))
theorem J7(v:Value)(l:List Nat)(w:World)(h:RdB w v l)(A:l.length=80)(m:l.take 4≠[97,108,105,49]):zR 193 #[v] w (.tuple #[frZ,.int .i64 5]):=by
 obtain⟨t,a,rfl⟩:=h.form;have q:=h.1;have n:80<=a:=by obtain⟨_,_,_,e,k,_⟩:=h;cases e;omega
 obtain⟨b,o,rfl,z,d⟩:∃b o,t=some ⟨b,o,none⟩/\b<w.heap.size/\w.cell? ⟨b,o+0,none⟩=some (.int .u8 ((l.getD 0 0:Nat):Int)):=by
  obtain⟨_,r,_,e,_,H⟩:=h;cases e;exact H 0 (by omega)
 have p:=h.cutL 4 a (by omega) (by omega);rw[A] at h ⊢;have j:=J9 (p.below (w':=w.alloc (Obj.cells #[.int .i64 0,.int .i64 0,.int .i64 0,.int .i64 0,.int .i64 0,.int .i64 0,.int .i64 0,.int .i64 0,.int .i64 0,.int .i64 0,.int .i64 0,.int .i64 0,.int .i64 0,.int .i64 0,.int .i64 0] 193)) ((Below.refl _ _).alloc (Nat.le_refl _) _));obtain⟨M,f⟩:∃M,M=l.take 4:=⟨_,rfl⟩;rw[<-f] at j m;have g:Byt M:=by rw[f];exact Hc q 4
 have s:∀w',Sem.run prog (binOp .neq 9 (Hh M) (Value.string {data:=#[97,108,105,49]})) w'=.ok (.bool true) w':=fun w'=>by
  have:=IJ M [97,108,105,49] g (by intro c k;simp at k;omega) 9 w';rw[decide_eq_true m] at this;exact this
 have B:∀(x y:Operand) (w':World),Sem.run prog (eqGuard .neq 9 x y (Hh M) (Value.string {data:=#[97,108,105,49]})) w'=.ok () w':=fun x y w'=>I0 .neq 9 x y M [97,108,105,49] w';clear f p h d z;go_enter func193,ntmps193;go_wp2_with fail;exact rT 15 #[.int .i64 0,.int .i64 0,.int .i64 0,.int .i64 0,.int .i64 0,.int .i64 0,.int .i64 0,.int .i64 0,.int .i64 0,.int .i64 0,.int .i64 0,.int .i64 0,.int .i64 0,.int .i64 0,.int .i64 0] (.int .i64 5) ⟨rfl,ad⟩ (j:=ek 14 _ rfl (by intro i u;rcases i with _|_|_|_|_|_|_|_|_|_|_|_|_|_|_|i;(go_simp);(go_simp);(go_simp);(go_simp);(go_simp);(go_simp);(go_simp);(go_simp);(go_simp);(go_simp);(go_simp);(go_simp);(go_simp);(go_simp);(go_simp);exact absurd u (by omega)))
theorem LZ(v:Value)(l:List Nat)(w:World)(h:RdB w v l)(E:l.length=80)(U:l.take 4=[97,108,105,49])(t:nAt l 76 4≠crc (l.take 76)):zR 193 #[v] w (.tuple #[frZ,.int .i64 6]):=by
 obtain⟨ao,f,rfl⟩:=h.form;have J:=h.1;have X:80<=f:=by obtain⟨_,_,_,e,F,_⟩:=h;cases e;omega
 obtain⟨b,o,rfl,hb,G⟩:∃b o,ao=some ⟨b,o,none⟩/\b<w.heap.size/\w.cell? ⟨b,o+0,none⟩=some (.int .u8 ((l.getD 0 0:Nat):Int)):=by
  obtain⟨_,b1,_,e,_,H⟩:=h;cases e;exact H 0 (by omega)
 have V:=h.cutL 4 f (by omega) (by omega);have s:=Lh (h.cutR 76 4 (f-76) (by omega) (by omega));have m:=Lh (h.cutR 4 76 (f-4) (by omega) (by omega));have B:=Lh (h.cutL 76 f (by omega) (by omega));rw[E] at h;rw[E];have u:=J9 (V.below (w':=w.alloc (Obj.cells #[.int .i64 0,.int .i64 0,.int .i64 0,.int .i64 0,.int .i64 0,.int .i64 0,.int .i64 0,.int .i64 0,.int .i64 0,.int .i64 0,.int .i64 0,.int .i64 0,.int .i64 0,.int .i64 0,.int .i64 0] 193)) ((Below.refl _ _).alloc (Nat.le_refl _) _));rw[U] at u;have K:∀w',Sem.run prog (binOp .neq 9 (Hh [97,108,105,49]) (Value.string {data:=#[97,108,105,49]})) w'=.ok (.bool false) w':=fun w'=>IJ [97,108,105,49] [97,108,105,49] (by intro c F;simp at F;omega) (by intro c F;simp at F;omega) 9 w';have P:∀(x y:Operand) (w':World),Sem.run prog (eqGuard .neq 9 x y (Hh [97,108,105,49]) (Value.string {data:=#[97,108,105,49]})) w'=.ok () w':=fun x y w'=>I0 .neq 9 x y [97,108,105,49] [97,108,105,49] w';have W:=Lh E;have z:nAt l 76 4<4294967296:=by unfold nAt;exact Pl (Hc (I5 J 76) 4) (by rw[List.length_take,List.length_drop];omega)
 have HY:=Lh J;have a7:(76:Int)<=(f:Int):=by omega
 have c4:(4:Int)<=(f:Int):=by omega
 have a9:¬f-76=0:=by omega
 have d4:¬f-4=0:=by omega
 clear U V h G E J;go_enter func193,ntmps193;go_wp2_with fail;refine eN ?_;intro q k;obtain⟨a,g⟩:∃a,a=w.heap.size:=⟨_,rfl⟩;have d:Hid (Blk q a #[.int .i64 0,.int .i64 0,.int .i64 0,.int .i64 0,.int .i64 0,.int .i64 0,.int .i64 0,.int .i64 0,.int .i64 0,.int .i64 0,.int .i64 0,.int .i64 0,.int .i64 0,.int .i64 0,.int .i64 0] 193):=by rw[k,g];exact(Blk.new _ _ _).alloc _
 have p:Hid (Blk q (a+1) #[.slice (some ⟨b,o+76,none⟩) 4 (f-76)] 341):=by rw[k,g];exact Blk.new' _ _ _ (by simp)
 have n:Below a w q:=by rw[k,g];show zB w _;exact ad
 have L:=Lh n;have A:=Lh g;have j:Below w.heap.size w q:=by rw[<-g];exact n
 replace s:=Lh (s.out.below j);replace m:=Lh (m.out.below j);replace B:=Lh (B.out.below j);have a4:b<a:=by omega
 rw[<-g];have Y:a+1<q.heap.size:=p.out.lt;clear k g n j hb u K P;obtain⟨N,O⟩:∃N,N=nAt l 76 4:=⟨_,rfl⟩;obtain⟨C,M⟩:∃C,C=crc (l.take 76):=⟨_,rfl⟩;have Q:C<4294967296:=by rw[M];exact J8 _
 rw[<-O] at z;have S:=Lh O.symm;have R:=Lh M.symm;clear O M;go_cut [33] from 27 (fun I wc=>I=.bool (decide (N≠C))/\Hid (ah (a+1) q wc))
 case first=>
  go_region_held3 (fun _=>True) (trivial)
   (first
    | (go_at_call 249;refine Calls.mono (JK (a+1) _ l 76 4 80 rfl (by decide) (by have:=W.out;omega) (by have:=W.out;omega) _ (by first|exact p.out|exact p.out.drew) (by first|exact s.out|exact s.out.below (Below.refl _ _).drew)) ?_;rintro e w2 ⟨⟨v2,rfl,b5,a6⟩,i⟩;rw[S.out])
    | (go_at_call 183;refine Calls.mono (SZ _ (l.take 76) C _ R.out (by first|exact Cx i p.out B.out|exact(Cx i p.out B.out).below (Below.refl _ _).drew) (by rw[List.length_take];omega)) ?_;rintro e w3 ⟨rfl,D⟩))
  go_wp2_with fail;go_meet;exact⟨congrArg Value.bool (KC N C z Q),(show ah (a+1) q w2 from by first|exact i|exact i.Om).trans (ah.of_below (by first|exact D|exact ze D))⟩
 case rest=>
  obtain⟨rfl,r⟩:=hcut;replace m:=Lh (Cx r.out p.out m.out);replace d:=Lh (r.out.blk d.out (by omega));have b6:=r.out.size;replace L:=Lh (r.out.below L.out (by rw[A.out];exact Nat.le_refl _) (Nat.le_succ _));clear r p s B;have T:decide (N≠C)=true:=decide_eq_true (by rw[<-S.out,<-R.out];exact t);rw[T];clear T;have e0:wc.setCell ⟨a,0,none⟩ (.int .i64 0)=wc:=d.out.setCell_self rfl;have e1:wc.setCell ⟨a,1,none⟩ (.int .i64 0)=wc:=d.out.setCell_self rfl;have e2:wc.setCell ⟨a,2,none⟩ (.int .i64 0)=wc:=d.out.setCell_self rfl;have e3:wc.setCell ⟨a,3,none⟩ (.int .i64 0)=wc:=d.out.setCell_self rfl;have e4:wc.setCell ⟨a,4,none⟩ (.int .i64 0)=wc:=d.out.setCell_self rfl;have e5:wc.setCell ⟨a,5,none⟩ (.int .i64 0)=wc:=d.out.setCell_self rfl;have e6:wc.setCell ⟨a,6,none⟩ (.int .i64 0)=wc:=d.out.setCell_self rfl;have e7:wc.setCell ⟨a,7,none⟩ (.int .i64 0)=wc:=d.out.setCell_self rfl;have e8:wc.setCell ⟨a,8,none⟩ (.int .i64 0)=wc:=d.out.setCell_self rfl;have e9:wc.setCell ⟨a,9,none⟩ (.int .i64 0)=wc:=d.out.setCell_self rfl;have a1:wc.setCell ⟨a,10,none⟩ (.int .i64 0)=wc:=d.out.setCell_self rfl;have a0:wc.setCell ⟨a,11,none⟩ (.int .i64 0)=wc:=d.out.setCell_self rfl;have a3:wc.setCell ⟨a,12,none⟩ (.int .i64 0)=wc:=d.out.setCell_self rfl;have b3:wc.setCell ⟨a,13,none⟩ (.int .i64 0)=wc:=d.out.setCell_self rfl;have b7:wc.setCell ⟨a,14,none⟩ (.int .i64 0)=wc:=d.out.setCell_self rfl;have k0:wc.cell? ⟨a,0,none⟩=some (.int .i64 0):=d.out.cell rfl;have k1:wc.cell? ⟨a,1,none⟩=some (.int .i64 0):=d.out.cell rfl;have k2:wc.cell? ⟨a,2,none⟩=some (.int .i64 0):=d.out.cell rfl;have k3:wc.cell? ⟨a,3,none⟩=some (.int .i64 0):=d.out.cell rfl;have k4:wc.cell? ⟨a,4,none⟩=some (.int .i64 0):=d.out.cell rfl;have k5:wc.cell? ⟨a,5,none⟩=some (.int .i64 0):=d.out.cell rfl;have k6:wc.cell? ⟨a,6,none⟩=some (.int .i64 0):=d.out.cell rfl;have k7:wc.cell? ⟨a,7,none⟩=some (.int .i64 0):=d.out.cell rfl;have k8:wc.cell? ⟨a,8,none⟩=some (.int .i64 0):=d.out.cell rfl;have k9:wc.cell? ⟨a,9,none⟩=some (.int .i64 0):=d.out.cell rfl;have b2:wc.cell? ⟨a,10,none⟩=some (.int .i64 0):=d.out.cell rfl;have a2:wc.cell? ⟨a,11,none⟩=some (.int .i64 0):=d.out.cell rfl;have b4:wc.cell? ⟨a,12,none⟩=some (.int .i64 0):=d.out.cell rfl;have a5:wc.cell? ⟨a,13,none⟩=some (.int .i64 0):=d.out.cell rfl;have a8:wc.cell? ⟨a,14,none⟩=some (.int .i64 0):=d.out.cell rfl;have f0:=d.out.frozen;have l0:=d.out.lt;have Z:=d.out.row?_all 15 rfl;go_wp2_with fail;exact rT 15 #[.int .i64 0,.int .i64 0,.int .i64 0,.int .i64 0,.int .i64 0,.int .i64 0,.int .i64 0,.int .i64 0,.int .i64 0,.int .i64 0,.int .i64 0,.int .i64 0,.int .i64 0,.int .i64 0,.int .i64 0] (.int .i64 6) ⟨rfl,by show Below _ _ _;rw[<-A.out];exact L.out⟩ (j:=Z)
theorem La(mf:Bool)(v:Value)(l:List Nat)(w:World)(h:RdB w v l)(hl:l.length=80)(hm:l.take 4=[97,108,105,49])(b5:nAt l 76 4=crc (l.take 76))(S:pl (frL l)=mf):zR 193 #[v] w (cond mf (.tuple #[frV (frL l),.int .i64 0]) (.tuple #[frZ,.int .i64 5])):=by
 obtain⟨zk,hk⟩:∃z,wrap64 (nAt l 4 1)=z:=⟨_,rfl⟩;obtain⟨zs,hs⟩:∃z,wrap64 (nAt l 5 1)=z:=⟨_,rfl⟩;obtain⟨E,b1⟩:∃z,wrap64 (nAt l 6 1)=z:=⟨_,rfl⟩;obtain⟨D,a9⟩:∃z,wrap64 (nAt l 7 1)=z:=⟨_,rfl⟩;obtain⟨F,a5⟩:∃z,wrap64 (nAt l 8 2)=z:=⟨_,rfl⟩;obtain⟨G,a8⟩:∃z,wrap64 (nAt l 10 2)=z:=⟨_,rfl⟩;obtain⟨I,Z⟩:∃z,wrap64 (nAt l 12 8)=z:=⟨_,rfl⟩;obtain⟨M,a7⟩:∃z,wrap64 (nAt l 20 8)=z:=⟨_,rfl⟩;obtain⟨K,a6⟩:∃z,wrap64 (nAt l 28 8)=z:=⟨_,rfl⟩;obtain⟨O,a0⟩:∃z,wrap64 (nAt l 36 8)=z:=⟨_,rfl⟩;obtain⟨zx,hx⟩:∃z,wrap32 (nAt l 44 4)=z:=⟨_,rfl⟩;obtain⟨zy,hy⟩:∃z,wrap32 (nAt l 48 4)=z:=⟨_,rfl⟩;obtain⟨za,ha⟩:∃z,wrap64 (nAt l 52 8)=z:=⟨_,rfl⟩;obtain⟨W,a4⟩:∃z,wrap64 (nAt l 60 8)=z:=⟨_,rfl⟩;obtain⟨zd,hd⟩:∃z,wrap64 (nAt l 68 8)=z:=⟨_,rfl⟩;have HF:Hid (frL l=⟨zk,zs,F,G,I,E,M,K,D,O,zx,zy,za,W,zd⟩):=by show _=_;unfold frL;rw[hk,hs,b1,a9,a5,a8,Z,a7,a6,a0,hx,hy,ha,a4,hd]
 rw[HF.out] at S;rw[HF.out];replace hk:=Lh hk;replace hs:=Lh hs;replace b1:=Lh b1;replace a9:=Lh a9;replace a5:=Lh a5;replace a8:=Lh a8;replace Z:=Lh Z;replace a7:=Lh a7;replace a6:=Lh a6;replace a0:=Lh a0;replace hx:=Lh hx;replace hy:=Lh hy;replace ha:=Lh ha;replace a4:=Lh a4;replace hd:=Lh hd;have HM:=Lh S;clear S;obtain⟨ao,A,rfl⟩:=h.form;have hy:=h.1;have f1:80<=A:=by obtain⟨_,_,_,e,hc,_⟩:=h;cases e;omega
 obtain⟨b,o,rfl,hb,c0⟩:∃b o,ao=some ⟨b,o,none⟩/\b<w.heap.size/\w.cell? ⟨b,o+0,none⟩=some (.int .u8 ((l.getD 0 0:Nat):Int)):=by
  obtain⟨_,h7,_,e,_,H⟩:=h;cases e;exact H 0 (by omega)
 have h4:=h.cutL 4 A (by omega) (by omega);have HD:=Lh (h.cutR 76 4 (A-76) (by omega) (by omega));have a:=Lh (h.cutR 4 76 (A-4) (by omega) (by omega));have HS:=Lh (h.cutL 76 A (by omega) (by omega));rw[hl] at h;rw[hl];have b6:=J9 (h4.below (w':=w.alloc (Obj.cells #[.int .i64 0,.int .i64 0,.int .i64 0,.int .i64 0,.int .i64 0,.int .i64 0,.int .i64 0,.int .i64 0,.int .i64 0,.int .i64 0,.int .i64 0,.int .i64 0,.int .i64 0,.int .i64 0,.int .i64 0] 193)) ((Below.refl _ _).alloc (Nat.le_refl _) _));rw[hm] at b6;have c6:∀w',Sem.run prog (binOp .neq 9 (Hh [97,108,105,49]) (Value.string {data:=#[97,108,105,49]})) w'=.ok (.bool false) w':=fun w'=>IJ [97,108,105,49] [97,108,105,49] (by intro c hc;simp at hc;omega) (by intro c hc;simp at hc;omega) 9 w';have d1:∀(x y:Operand) (w':World),Sem.run prog (eqGuard .neq 9 x y (Hh [97,108,105,49]) (Value.string {data:=#[97,108,105,49]})) w'=.ok () w':=fun x y w'=>I0 .neq 9 x y [97,108,105,49] [97,108,105,49] w';have s:=Lh hl;have b8:nAt l 76 4<4294967296:=by unfold nAt;exact Pl (Hc (I5 hy 76) 4) (by rw[List.length_take,List.length_drop];omega)
 have HY:=Lh hy;have h3:(76:Int)<=(A:Int):=by omega
 have c4:(4:Int)<=(A:Int):=by omega
 have h6:¬A-76=0:=by omega
 have d4:¬A-4=0:=by omega
 clear hm h4 h c0 hl hy;go_enter func193,ntmps193;go_wp2_with fail;refine eN ?_;intro u0 a2;obtain⟨k,J⟩:∃k,k=w.heap.size:=⟨_,rfl⟩;have d:Hid (Blk u0 k #[.int .i64 0,.int .i64 0,.int .i64 0,.int .i64 0,.int .i64 0,.int .i64 0,.int .i64 0,.int .i64 0,.int .i64 0,.int .i64 0,.int .i64 0,.int .i64 0,.int .i64 0,.int .i64 0,.int .i64 0] 193):=by rw[a2,J];exact(Blk.new _ _ _).alloc _
 have G1:Hid (Blk u0 (k+1) #[.slice (some ⟨b,o+76,none⟩) 4 (A-76)] 341):=by rw[a2,J];exact Blk.new' _ _ _ (by simp)
 have b4:Below k w u0:=by rw[a2,J];show zB w _;exact ad
 have m:=Lh b4;have n:=Lh J;have Y:Below w.heap.size w u0:=by rw[<-J];exact b4
 replace HD:=Lh (HD.out.below Y);replace a:=Lh (a.out.below Y);replace HS:=Lh (HS.out.below Y);have g7:b<k:=by omega
 rw[<-J];have f4:k+1<u0.heap.size:=G1.out.lt;clear a2 J b4 Y hb b6 c6 d1;obtain⟨N,hN⟩:∃N,N=nAt l 76 4:=⟨_,rfl⟩;obtain⟨C,hC⟩:∃C,C=crc (l.take 76):=⟨_,rfl⟩;have d7:C<4294967296:=by rw[hC];exact J8 _
 rw[<-hN] at b8;have HN:=Lh hN.symm;have HC:=Lh hC.symm;clear hN hC;go_cut [33] from 27 (fun c5 wc=>c5=.bool (decide (N≠C))/\Hid (ah (k+1) u0 wc))
 case first=>
  go_region_held3 (fun _=>True) (trivial)
   (first
    | (go_at_call 249;refine Calls.mono (JK (k+1) _ l 76 4 80 rfl (by decide) (by have:=s.out;omega) (by have:=s.out;omega) _ (by first|exact G1.out|exact G1.out.drew) (by first|exact HD.out|exact HD.out.below (Below.refl _ _).drew)) ?_;rintro e w2 ⟨⟨v2,rfl,i1,h1⟩,X⟩;rw[HN.out])
    | (go_at_call 183;refine Calls.mono (SZ _ (l.take 76) C _ HC.out (by first|exact Cx X G1.out HS.out|exact(Cx X G1.out HS.out).below (Below.refl _ _).drew) (by rw[List.length_take];omega)) ?_;rintro e w3 ⟨rfl,b9⟩))
  go_wp2_with fail;go_meet;exact⟨congrArg Value.bool (KC N C b8 d7),(show ah (k+1) u0 w2 from by first|exact X|exact X.Om).trans (ah.of_below (by first|exact b9|exact ze b9))⟩
 case rest=>
  obtain⟨rfl,f⟩:=hcut;replace a:=Lh (Cx f.out G1.out a.out);replace d:=Lh (f.out.blk d.out (by omega));have i2:=f.out.size;replace m:=Lh (f.out.below m.out (by rw[n.out];exact Nat.le_refl _) (Nat.le_succ _));clear f G1 HD HS;have hd:decide (N≠C)=false:=decide_eq_false (by rw[<-HN.out,<-HC.out];simp[b5]);rw[hd];clear hd;go_wp2_with fail;refine jj ?_;intro u1 a1;obtain⟨u,a3⟩:∃u,u=wc.heap.size:=⟨_,rfl⟩;have r:Hid (Blk u1 u #[.slice (some ⟨b,o+4,none⟩) 76 (A-4)] 341):=by rw[a1,a3];exact Blk.new _ _ _
  replace d:Hid (Blk u1 k #[.int .i64 0,.int .i64 0,.int .i64 0,.int .i64 0,.int .i64 0,.int .i64 0,.int .i64 0,.int .i64 0,.int .i64 0,.int .i64 0,.int .i64 0,.int .i64 0,.int .i64 0,.int .i64 0,.int .i64 0] 193):=by rw[a1];exact d.out.alloc _
  have L:zB wc u1:=by rw[a1];exact(Below.refl _ _).alloc (Nat.le_refl _) _
  have h2:k+1<u:=by rw[a3];omega
  replace m:=Lh (m.out.trans (L.mono (by omega)));replace a:=Lh (a.out.below L);rw[<-a3];clear a1 a3 L;refine Calls.mono (wm u _ l 4 1 5 zk rfl hk.out (by decide) (by have:=s.out;omega) (by have:=s.out;omega) _ r.out a.out) ?_;rintro e x2 ⟨⟨v2,rfl,q,p⟩,f⟩;replace r:=Lh q;replace a:=Lh p;replace d:=Lh (f.blk d.out (by omega));replace m:=Lh (f.below m.out (by rw[n.out];exact Nat.le_refl _) (by omega));clear f q p;go_wp2_with fail;refine Calls.mono (wm u _ l 5 1 6 zs rfl hs.out (by decide) (by have:=s.out;omega) (by have:=s.out;omega) _ r.out a.out) ?_;rintro e x3 ⟨⟨v3,rfl,q,p⟩,f⟩;replace r:=Lh q;replace a:=Lh p;replace d:=Lh (f.blk d.out (by omega));replace m:=Lh (f.below m.out (by rw[n.out];exact Nat.le_refl _) (by omega));clear f q p;go_wp2_with fail;refine Calls.mono (wm u _ l 6 1 7 E rfl b1.out (by decide) (by have:=s.out;omega) (by have:=s.out;omega) _ r.out a.out) ?_;rintro e x4 ⟨⟨v4,rfl,q,p⟩,f⟩;replace r:=Lh q;replace a:=Lh p;replace d:=Lh (f.blk d.out (by omega));replace m:=Lh (f.below m.out (by rw[n.out];exact Nat.le_refl _) (by omega));clear f q p;go_wp2_with fail;refine Calls.mono (wm u _ l 7 1 8 D rfl a9.out (by decide) (by have:=s.out;omega) (by have:=s.out;omega) _ r.out a.out) ?_;rintro e x5 ⟨⟨v5,rfl,q,p⟩,f⟩;replace r:=Lh q;replace a:=Lh p;replace d:=Lh (f.blk d.out (by omega));replace m:=Lh (f.below m.out (by rw[n.out];exact Nat.le_refl _) (by omega));clear f q p;go_wp2_with fail;refine jj ?_;intro u2 T;obtain⟨gf,b2⟩:∃gf,gf=x5.heap.size:=⟨_,rfl⟩;have b7:=r.out.lt;have GF:Hid (Blk u2 gf #[zk,zs,.int .i64 0,.int .i64 0,.int .i64 0,E,.int .i64 0,.int .i64 0,D,.int .i64 0,.int .i64 0,.int .i64 0,.int .i64 0,.int .i64 0,.int .i64 0] 193):=by rw[T,b2];exact Blk.new _ _ _
  replace r:=(show Hid (Blk u2 u _ 341) by rw[T];exact r.out.alloc _);replace d:Hid (Blk u2 k #[.int .i64 0,.int .i64 0,.int .i64 0,.int .i64 0,.int .i64 0,.int .i64 0,.int .i64 0,.int .i64 0,.int .i64 0,.int .i64 0,.int .i64 0,.int .i64 0,.int .i64 0,.int .i64 0,.int .i64 0] 193):=by rw[T];exact d.out.alloc _
  have L:zB x5 u2:=by rw[T];exact(Below.refl _ _).alloc (Nat.le_refl _) _
  have d9:u<gf:=by omega
  replace m:=Lh (m.out.trans (L.mono (by omega)));replace a:=Lh (a.out.below L);have g4:b<gf:=by omega
  rw[<-b2];clear T b2 L b7;refine Calls.mono (wm u _ l 8 2 10 F rfl a5.out (by decide) (by have:=s.out;omega) (by have:=s.out;omega) _ r.out a.out) ?_;rintro e x6 ⟨⟨v6,rfl,q,p⟩,f⟩;replace r:=Lh q;replace a:=Lh p;replace d:=Lh (f.blk d.out (by omega));replace GF:=Lh (f.blk GF.out (by omega));replace m:=Lh (f.below m.out (by rw[n.out];exact Nat.le_refl _) (by omega));clear f q p;go_wp2_with fail;refine Calls.mono (wm u _ l 10 2 12 G rfl a8.out (by decide) (by have:=s.out;omega) (by have:=s.out;omega) _ r.out a.out) ?_;rintro e x7 ⟨⟨v7,rfl,q,p⟩,f⟩;replace r:=Lh q;replace a:=Lh p;replace d:=Lh (f.blk d.out (by omega));replace GF:=Lh (f.blk GF.out (by omega));replace m:=Lh (f.below m.out (by rw[n.out];exact Nat.le_refl _) (by omega));clear f q p;have lf:=GF.out.lt;have ff:=GF.out.frozen;have q2:=GF.out.cell (i:=2) (v:=.int .i64 0) rfl;have q3:=GF.out.cell (i:=3) (v:=.int .i64 0) rfl;go_wp2_with fail;refine jj ?_;intro y0 V;have j:u≠gf:=by omega
  have g:k≠gf:=by omega
  replace r:=(show Hid (Blk y0 u _ 341) by rw[V];exact((r.out.ac j _).ac j _));replace d:=(show Hid (Blk y0 k #[.int .i64 0,.int .i64 0,.int .i64 0,.int .i64 0,.int .i64 0,.int .i64 0,.int .i64 0,.int .i64 0,.int .i64 0,.int .i64 0,.int .i64 0,.int .i64 0,.int .i64 0,.int .i64 0,.int .i64 0] 193) by rw[V];exact((d.out.ac g _).ac g _));have t:ah gf x7 y0:=by rw[V];exact((ah.refl.setCell 2 _).setCell 3 _)
  replace a:=Lh (Ct t GF.out a.out);have B:Hid (Blk y0 gf #[zk,zs,F,G,.int .i64 0,E,.int .i64 0,.int .i64 0,D,.int .i64 0,.int .i64 0,.int .i64 0,.int .i64 0,.int .i64 0,.int .i64 0] 193):=by rw[V];exact Blk.of_eq (((GF.out.ab 2 _).ab 3 _)) (by simp)
  replace GF:=B;replace m:=Lh (t.below m.out (by rw[n.out];exact Nat.le_refl _) (by omega));clear B t j g V lf ff q2 q3;refine Calls.mono (wm u _ l 12 8 20 I rfl Z.out (by decide) (by have:=s.out;omega) (by have:=s.out;omega) _ r.out a.out) ?_;rintro e x8 ⟨⟨v8,rfl,q,p⟩,f⟩;replace r:=Lh q;replace a:=Lh p;replace d:=Lh (f.blk d.out (by omega));replace GF:=Lh (f.blk GF.out (by omega));replace m:=Lh (f.below m.out (by rw[n.out];exact Nat.le_refl _) (by omega));clear f q p;go_wp2_with fail;refine Calls.mono (wm u _ l 20 8 28 M rfl a7.out (by decide) (by have:=s.out;omega) (by have:=s.out;omega) _ r.out a.out) ?_;rintro e x9 ⟨⟨v9,rfl,q,p⟩,f⟩;replace r:=Lh q;replace a:=Lh p;replace d:=Lh (f.blk d.out (by omega));replace GF:=Lh (f.blk GF.out (by omega));replace m:=Lh (f.below m.out (by rw[n.out];exact Nat.le_refl _) (by omega));clear f q p;go_wp2_with fail;refine Calls.mono (wm u _ l 28 8 36 K rfl a6.out (by decide) (by have:=s.out;omega) (by have:=s.out;omega) _ r.out a.out) ?_;rintro e f8 ⟨⟨g3,rfl,q,p⟩,f⟩;replace r:=Lh q;replace a:=Lh p;replace d:=Lh (f.blk d.out (by omega));replace GF:=Lh (f.blk GF.out (by omega));replace m:=Lh (f.below m.out (by rw[n.out];exact Nat.le_refl _) (by omega));clear f q p;go_wp2_with fail;refine Calls.mono (wm u _ l 36 8 44 O rfl a0.out (by decide) (by have:=s.out;omega) (by have:=s.out;omega) _ r.out a.out) ?_;rintro e c9 ⟨⟨g1,rfl,q,p⟩,f⟩;replace r:=Lh q;replace a:=Lh p;replace d:=Lh (f.blk d.out (by omega));replace GF:=Lh (f.blk GF.out (by omega));replace m:=Lh (f.below m.out (by rw[n.out];exact Nat.le_refl _) (by omega));clear f q p;have lf:=GF.out.lt;have ff:=GF.out.frozen;have q4:=GF.out.cell (i:=4) (v:=.int .i64 0) rfl;have q6:=GF.out.cell (i:=6) (v:=.int .i64 0) rfl;have q7:=GF.out.cell (i:=7) (v:=.int .i64 0) rfl;have q9:=GF.out.cell (i:=9) (v:=.int .i64 0) rfl;go_wp2_with fail;refine jj ?_;intro y1 Q;have j:u≠gf:=by omega
  have g:k≠gf:=by omega
  replace r:=(show Hid (Blk y1 u _ 341) by rw[Q];exact((((r.out.ac j _).ac j _).ac j _).ac j _));replace d:=(show Hid (Blk y1 k #[.int .i64 0,.int .i64 0,.int .i64 0,.int .i64 0,.int .i64 0,.int .i64 0,.int .i64 0,.int .i64 0,.int .i64 0,.int .i64 0,.int .i64 0,.int .i64 0,.int .i64 0,.int .i64 0,.int .i64 0] 193) by rw[Q];exact((((d.out.ac g _).ac g _).ac g _).ac g _));have t:ah gf c9 y1:=by rw[Q];exact((((ah.refl.setCell 4 _).setCell 6 _).setCell 7 _).setCell 9 _)
  replace a:=Lh (Ct t GF.out a.out);have B:Hid (Blk y1 gf #[zk,zs,F,G,I,E,M,K,D,O,.int .i64 0,.int .i64 0,.int .i64 0,.int .i64 0,.int .i64 0] 193):=by rw[Q];exact Blk.of_eq (((((GF.out.ab 4 _).ab 6 _).ab 7 _).ab 9 _)) (by simp)
  replace GF:=B;replace m:=Lh (t.below m.out (by rw[n.out];exact Nat.le_refl _) (by omega));clear B t j g Q lf ff q4 q6 q7 q9;refine Calls.mono (Mj u _ l 44 48 zx rfl hx.out (by have:=s.out;omega) (by have:=s.out;omega) _ r.out a.out) ?_;rintro e i4 ⟨⟨g9,rfl,q,p⟩,f⟩;replace r:=Lh q;replace a:=Lh p;replace d:=Lh (f.blk d.out (by omega));replace GF:=Lh (f.blk GF.out (by omega));replace m:=Lh (f.below m.out (by rw[n.out];exact Nat.le_refl _) (by omega));clear f q p;go_wp2_with fail;refine Calls.mono (Mj u _ l 48 52 zy rfl hy.out (by have:=s.out;omega) (by have:=s.out;omega) _ r.out a.out) ?_;rintro e c8 ⟨⟨f6,rfl,q,p⟩,f⟩;replace r:=Lh q;replace a:=Lh p;replace d:=Lh (f.blk d.out (by omega));replace GF:=Lh (f.blk GF.out (by omega));replace m:=Lh (f.below m.out (by rw[n.out];exact Nat.le_refl _) (by omega));clear f q p;have lf:=GF.out.lt;have ff:=GF.out.frozen;have d6:=GF.out.cell (i:=10) (v:=.int .i64 0) rfl;have c2:=GF.out.cell (i:=11) (v:=.int .i64 0) rfl;go_wp2_with fail;refine jj ?_;intro y2 P;have j:u≠gf:=by omega
  have g:k≠gf:=by omega
  replace r:=(show Hid (Blk y2 u _ 341) by rw[P];exact((r.out.ac j _).ac j _));replace d:=(show Hid (Blk y2 k #[.int .i64 0,.int .i64 0,.int .i64 0,.int .i64 0,.int .i64 0,.int .i64 0,.int .i64 0,.int .i64 0,.int .i64 0,.int .i64 0,.int .i64 0,.int .i64 0,.int .i64 0,.int .i64 0,.int .i64 0] 193) by rw[P];exact((d.out.ac g _).ac g _));have t:ah gf c8 y2:=by rw[P];exact((ah.refl.setCell 10 _).setCell 11 _)
  replace a:=Lh (Ct t GF.out a.out);have B:Hid (Blk y2 gf #[zk,zs,F,G,I,E,M,K,D,O,zx,zy,.int .i64 0,.int .i64 0,.int .i64 0] 193):=by rw[P];exact Blk.of_eq (((GF.out.ab 10 _).ab 11 _)) (by simp)
  replace GF:=B;replace m:=Lh (t.below m.out (by rw[n.out];exact Nat.le_refl _) (by omega));clear B t j g P lf ff d6 c2;refine Calls.mono (wm u _ l 52 8 60 za rfl ha.out (by decide) (by have:=s.out;omega) (by have:=s.out;omega) _ r.out a.out) ?_;rintro e f7 ⟨⟨i3,rfl,q,p⟩,f⟩;replace r:=Lh q;replace a:=Lh p;replace d:=Lh (f.blk d.out (by omega));replace GF:=Lh (f.blk GF.out (by omega));replace m:=Lh (f.below m.out (by rw[n.out];exact Nat.le_refl _) (by omega));clear f q p;go_wp2_with fail;refine Calls.mono (wm u _ l 60 8 68 W rfl a4.out (by decide) (by have:=s.out;omega) (by have:=s.out;omega) _ r.out a.out) ?_;rintro e g8 ⟨⟨f2,rfl,q,p⟩,f⟩;replace r:=Lh q;replace a:=Lh p;replace d:=Lh (f.blk d.out (by omega));replace GF:=Lh (f.blk GF.out (by omega));replace m:=Lh (f.below m.out (by rw[n.out];exact Nat.le_refl _) (by omega));clear f q p;go_wp2_with fail;refine Calls.mono (wm u _ l 68 8 76 zd rfl hd.out (by decide) (by have:=s.out;omega) (by have:=s.out;omega) _ r.out a.out) ?_;rintro e d2 ⟨⟨f3,rfl,q,p⟩,f⟩;replace r:=Lh q;replace a:=Lh p;replace d:=Lh (f.blk d.out (by omega));replace GF:=Lh (f.blk GF.out (by omega));replace m:=Lh (f.below m.out (by rw[n.out];exact Nat.le_refl _) (by omega));clear f q p;have lf:=GF.out.lt;have ff:=GF.out.frozen;have c3:=GF.out.cell (i:=12) (v:=.int .i64 0) rfl;have c7:=GF.out.cell (i:=13) (v:=.int .i64 0) rfl;have c1:=GF.out.cell (i:=14) (v:=.int .i64 0) rfl;go_upto_region 14 with fail
  refine eN ?_;intro y3 U;have j:u≠gf:=by omega
  have g:k≠gf:=by omega
  replace r:=(show Hid (Blk y3 u _ 341) by rw[U];exact(((r.out.ac j _).ac j _).ac j _));replace d:=(show Hid (Blk y3 k #[.int .i64 0,.int .i64 0,.int .i64 0,.int .i64 0,.int .i64 0,.int .i64 0,.int .i64 0,.int .i64 0,.int .i64 0,.int .i64 0,.int .i64 0,.int .i64 0,.int .i64 0,.int .i64 0,.int .i64 0] 193) by rw[U];exact(((d.out.ac g _).ac g _).ac g _));have t:ah gf d2 y3:=by rw[U];exact(((ah.refl.setCell 12 _).setCell 13 _).setCell 14 _)
  replace a:=Lh (Ct t GF.out a.out);have B:Hid (Blk y3 gf #[zk,zs,F,G,I,E,M,K,D,O,zx,zy,za,W,zd] 193):=by rw[U];exact Blk.of_eq ((((GF.out.ab 12 _).ab 13 _).ab 14 _)) (by simp)
  replace GF:=B;replace m:=Lh (t.below m.out (by rw[n.out];exact Nat.le_refl _) (by omega));clear B t j g U lf ff c3 c7 c1;obtain⟨RR,b3⟩:∃R:Array Value,R=#[.int .i64 zk,.int .i64 zs,.int .i64 F,.int .i64 G,.int .i64 I,.int .i64 E,.int .i64 M,.int .i64 K,.int .i64 D,.int .i64 O,.int .i64 zx,.int .i64 zy,.int .i64 za,.int .i64 W,.int .i64 zd]:=⟨_,rfl⟩;have d3:y3.row? gf 0 15=some RR:=by rw[b3];exact GF.out.row?_all 15 rfl
  have HR:=Lh b3;clear b3;go_wp2_with fail;rw[HR.out];refine Calls.mono (DO ⟨zk,zs,F,G,I,E,M,K,D,O,zx,zy,za,W,zd⟩ _ HM.out _) ?_;rintro e wd ⟨rfl,hb⟩;rw[<-HR.out];replace GF:=Kp GF hb;have d0:=d.out.lt;replace d:=Kp d hb;replace m:=Lh (m.out.trans (hb.mono (by omega)));clear hb d3 d0 r a;cases mf with
  | true=>
   have f5:wd.row? gf 0 15=some RR:=by rw[HR.out];exact GF.out.row?_all 15 rfl
   have d5:wd.put? k 0 RR=some (wd.putRow k 0 RR):=d.out.put? 0 RR (by rw[HR.out];simp) (by rw[HR.out];exact LF _ _ _ _ _ _ _ _ _ _ _ _ _ _ _);have d8:RR.size=15:=by rw[HR.out];rfl
   have l0:=d.out.lt;have l3:=GF.out.lt;go_wp2_with fail;exact az 15 RR (.int .i64 0) rfl rfl rfl rfl underlying193 rfl (by kernel_rfl) (cP d5 (by rw[HR.out];rfl)) ⟨by rw[HR.out];rfl,by rw[<-n.out];exact ar m.out (Nat.le_refl _) _ _⟩
  | false=>
   have e0:wd.setCell ⟨k,0,none⟩ (.int .i64 0)=wd:=d.out.setCell_self rfl;have e1:wd.setCell ⟨k,1,none⟩ (.int .i64 0)=wd:=d.out.setCell_self rfl;have e2:wd.setCell ⟨k,2,none⟩ (.int .i64 0)=wd:=d.out.setCell_self rfl;have e3:wd.setCell ⟨k,3,none⟩ (.int .i64 0)=wd:=d.out.setCell_self rfl;have e4:wd.setCell ⟨k,4,none⟩ (.int .i64 0)=wd:=d.out.setCell_self rfl;have e5:wd.setCell ⟨k,5,none⟩ (.int .i64 0)=wd:=d.out.setCell_self rfl;have e6:wd.setCell ⟨k,6,none⟩ (.int .i64 0)=wd:=d.out.setCell_self rfl;have e7:wd.setCell ⟨k,7,none⟩ (.int .i64 0)=wd:=d.out.setCell_self rfl;have e8:wd.setCell ⟨k,8,none⟩ (.int .i64 0)=wd:=d.out.setCell_self rfl;have e9:wd.setCell ⟨k,9,none⟩ (.int .i64 0)=wd:=d.out.setCell_self rfl;have g0:wd.setCell ⟨k,10,none⟩ (.int .i64 0)=wd:=d.out.setCell_self rfl;have f9:wd.setCell ⟨k,11,none⟩ (.int .i64 0)=wd:=d.out.setCell_self rfl;have g6:wd.setCell ⟨k,12,none⟩ (.int .i64 0)=wd:=d.out.setCell_self rfl;have h9:wd.setCell ⟨k,13,none⟩ (.int .i64 0)=wd:=d.out.setCell_self rfl;have i5:wd.setCell ⟨k,14,none⟩ (.int .i64 0)=wd:=d.out.setCell_self rfl;have k0:wd.cell? ⟨k,0,none⟩=some (.int .i64 0):=d.out.cell rfl;have k1:wd.cell? ⟨k,1,none⟩=some (.int .i64 0):=d.out.cell rfl;have k2:wd.cell? ⟨k,2,none⟩=some (.int .i64 0):=d.out.cell rfl;have k3:wd.cell? ⟨k,3,none⟩=some (.int .i64 0):=d.out.cell rfl;have k4:wd.cell? ⟨k,4,none⟩=some (.int .i64 0):=d.out.cell rfl;have k5:wd.cell? ⟨k,5,none⟩=some (.int .i64 0):=d.out.cell rfl;have k6:wd.cell? ⟨k,6,none⟩=some (.int .i64 0):=d.out.cell rfl;have k7:wd.cell? ⟨k,7,none⟩=some (.int .i64 0):=d.out.cell rfl;have k8:wd.cell? ⟨k,8,none⟩=some (.int .i64 0):=d.out.cell rfl;have k9:wd.cell? ⟨k,9,none⟩=some (.int .i64 0):=d.out.cell rfl;have h8:wd.cell? ⟨k,10,none⟩=some (.int .i64 0):=d.out.cell rfl;have g5:wd.cell? ⟨k,11,none⟩=some (.int .i64 0):=d.out.cell rfl;have i0:wd.cell? ⟨k,12,none⟩=some (.int .i64 0):=d.out.cell rfl;have h0:wd.cell? ⟨k,13,none⟩=some (.int .i64 0):=d.out.cell rfl;have h5:wd.cell? ⟨k,14,none⟩=some (.int .i64 0):=d.out.cell rfl;have f0:=d.out.frozen;have l0:=d.out.lt;have r0:=d.out.row?_all 15 rfl;go_wp2_with fail;exact rT 15 #[.int .i64 0,.int .i64 0,.int .i64 0,.int .i64 0,.int .i64 0,.int .i64 0,.int .i64 0,.int .i64 0,.int .i64 0,.int .i64 0,.int .i64 0,.int .i64 0,.int .i64 0,.int .i64 0,.int .i64 0] (.int .i64 5) ⟨rfl,by show Below _ _ _;rw[<-n.out];exact m.out⟩ (j:=r0)
theorem Qd(v:Value)(l:List Nat)(w:World)(h:RdB w v l)(c:l.length=80)(d:l.take 4=[97,108,105,49])(a:nAt l 76 4=crc (l.take 76))(b:pl (frL l)=true):zR 193 #[v] w (.tuple #[frV (frL l),.int .i64 0]):=La true v l w h c d a b
theorem Qe(v:Value)(l:List Nat)(w:World)(h:RdB w v l)(c:l.length=80)(d:l.take 4=[97,108,105,49])(a:nAt l 76 4=crc (l.take 76))(b:pl (frL l)=false):zR 193 #[v] w (.tuple #[frZ,.int .i64 5]):=La false v l w h c d a b
end Go.Proofs.YtechbdnhalmobaaGreatDoor
