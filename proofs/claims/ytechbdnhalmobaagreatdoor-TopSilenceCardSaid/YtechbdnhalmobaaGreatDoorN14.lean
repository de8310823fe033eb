/- Walks. -/
import Derived.Test.YtechbdnhalmobaaGreatDoorN7b
namespace Go.Proofs.YtechbdnhalmobaaGreatDoor
set_option linter.unusedSimpArgs false
set_option linter.unusedVariables false
open Go.RowKit
theorem Qf(v:Value)(l:List Nat)(w:World)(h:RdB w v l):zR 193 #[v] w (.tuple #[frV (decE l).1,.int .i64 (decE l).2]):=by
 unfold decE;by_cases d:l.length<80
 ·rw[if_pos d];exact J6 v l w h d
 rw[if_neg d];by_cases c:80<l.length
 ·rw[if_pos (.inl c)];exact K9 v l w h c
 by_cases a:l.take 4=[97,108,105,49]
 ·rw[if_neg (by rintro(h|h);exact c h;exact h a)];by_cases b:nAt l 76 4=crc (l.take 76)
  ·rw[if_neg (fun e=>e b)];cases hm:pl (frL l) with
   | true=>rw[if_pos rfl];exact Qd v l w h (by omega) a b hm
   | false=>rw[if_neg (by decide)];exact Qe v l w h (by omega) a b hm
  ·rw[if_pos b];exact LZ v l w h (by omega) a b
 ·rw[if_pos (.inr a)];exact J7 v l w h (by omega) a
theorem Qc(v:Value)(l:List Nat)(f:FrD)(n:Int)(a:decE l=(f,n))(w:World)(h:RdB w v l):zR 193 #[v] w (.tuple #[frV f,n]):=by
 have:=Qf v l w h;rw[a] at this;exact this
structure FrR (f:FrD):Prop where
 kind:1<=f.kind/\f.kind<=7
 src:0<=f.src/\f.src<64
 boot:0<=f.boot/\f.boot<=65535
 seq:0<=f.seq/\f.seq<=65535
 stamp:0<=f.stamp/\f.stamp<=1000000
 dst:0<=f.dst/\f.dst<64
 t1:0<=f.t1/\f.t1<=70368744177664
 t2:0<=f.t2/\f.t2<=70368744177664
 who:0<=f.who/\f.who<64
 when:0<=f.when/\f.when<=70368744177664
 x : -4194304<=f.x/\f.x<=4194304
 y : -4194304<=f.y/\f.y<=4194304
 a:0<=f.a/\f.a<=70368744177664
 b : -70368744177664<=f.b/\f.b<=70368744177664
 d:0<=f.d/\f.d<=70368744177664
theorem pg(n:Int):nodeB n=true↔0<=n/\n<64:=by unfold nodeB;simp
theorem Aa(n m:Int):inFB n m=true↔0<=n/\n<=m:=by unfold inFB;simp
theorem LS(f:FrD)(h:pl f=true):FrR f:=by
 unfold pl at h;simp only[Bool.and_eq_true,pg,Aa,decide_eq_true_eq] at h;obtain⟨k,D,F,I,G,n,e,g,i,c,m,l,o,q,j⟩:=h;unfold restF at k n e g i c m l o q j
 have el:f.el.may=true->(-4194304<=f.x/\f.x<=4194304/\-4194304<=f.y/\f.y<=4194304)/\(0<=f.a/\f.a<=70368744177664/\0<=f.d/\f.d<=70368744177664/\-70368744177664<=f.b/\f.b<=70368744177664):=by
  intro h;obtain⟨p,⟨E,A,H,B,z,C⟩,-⟩:=(El.aQ _).1 h;exact⟨p,by show 0<=f.el.a;omega,A,by show 0<=f.el.d;omega,B,z,C⟩
 by_cases v:f.kind=1∨f.kind=7
 ·rw[if_pos v] at n e g i c m l o q j;simp only at n e g i c m l o q j;constructor<;>omega
 rw[if_neg v] at k n e g i c m l o q j;by_cases u:f.kind=2
 ·rw[if_pos u] at k n e g i c m l o q j;simp only[Bool.and_eq_true,pg,Aa,decide_eq_true_eq] at k n e g i c m l o q j;constructor<;>omega
 rw[if_neg u] at k n e g i c m l o q j;by_cases t:f.kind=3
 ·rw[if_pos t] at k n e g i c m l o q j;simp only[Bool.and_eq_true,pg,Aa,decide_eq_true_eq] at k n e g i c m l o q j;constructor<;>omega
 rw[if_neg t] at k n e g i c m l o q j;by_cases r:f.kind=4
 ·rw[if_pos r] at k n e g i c m l o q j;simp only[Bool.and_eq_true,pg,Aa,decide_eq_true_eq] at k n e g i c m l o q j;constructor<;>omega
 rw[if_neg r] at k n e g i c m l o q j;by_cases s:f.kind=5
 ·rw[if_pos s] at k n e g i c m l o q j;simp only[Bool.and_eq_true,pg,Aa,decide_eq_true_eq] at k n e g i c m l o q j;have:=el k;constructor<;>omega
 rw[if_neg s] at k n e g i c m l o q j;by_cases w:f.kind=6
 ·rw[if_pos w] at k n e g i c m l o q j;simp only[Bool.and_eq_true,pg,Aa,decide_eq_true_eq] at k n e g i c m l o q j;have:=el k.2.2.2;constructor<;>omega
 rw[if_neg w] at k;cases k
theorem QA(p q m:List Nat)(a wd:Nat)(b:p.length=a)(c:m.length=wd):nAt (p++(m++q)) a wd=nb m:=by
 unfold nAt;rw[<-b,List.drop_left,<-c,List.take_left]
theorem uB(n m:Int)(h:m=n%18446744073709551616)(b : -9223372036854775808<=n)(a:n<9223372036854775808):wrap64 m=n:=by subst h;unfold wrap64;omega
theorem zf(n m M:Int)(h:m=n%M)(b:0<=n)(a:n<M)(d:M<=18446744073709551616)(c:n<9223372036854775808):wrap64 m=n:=by
 subst h;rw[Int.emod_eq_of_lt b a];unfold wrap64;omega
theorem Jg(n m:Int)(h:m=n%4294967296)(b : -2147483648<=n)(a:n<2147483648):wrap32 m=n:=by subst h;unfold wrap32;omega
theorem Ka(f:FrD):Cb f=[97,108,105,49]++(be 1 f.kind++(be 1 f.src++(be 1 f.dst++(be 1 f.who++(be 2 f.boot++(be 2 f.seq++(be 8 f.stamp++(be 8 f.t1++(be 8 f.t2++(be 8 f.when++(be 4 f.x++(be 4 f.y++(be 8 f.a++(be 8 f.b++be 8 f.d)))))))))))))):=by
 unfold Cb flw;simp[List.flatMap_cons]
theorem I7(f:FrD):(Cb f).length=76:=by
 rw[Ka];simp only[List.length_append,gF,List.length_cons,List.length_nil]
theorem J5(f:FrD):(nt f).length=80:=by unfold nt;rw [List.length_append,I7,gF]
theorem P0(f:FrD):(nt f).take 76=Cb f:=by unfold nt;rw [<-I7 f,List.take_left]
theorem PZ(f:FrD):(nt f).take 4=[97,108,105,49]:=by unfold nt;rw [Ka];rfl
theorem Ss(f:FrD):nAt (nt f) 76 4=crc ((nt f).take 76):=by
 rw[P0];have h:=QA (Cb f) [] (be 4 (crc (Cb f))) 76 4 (I7 f) (gF _ _);rw[List.append_nil] at h;unfold nt;rw[h];have:=KD 4 (crc (Cb f));have a:=J8 (Cb f);rw[show((256^4:Nat):Int)=4294967296 from rfl] at this;omega
theorem KG(m q:List Nat)(n a wd:Nat)(h:m.length=n)(b:n<=a):nAt (m++q) a wd=nAt q (a-n) wd:=by
 unfold nAt;rw[List.drop_append,List.drop_eq_nil_of_le (by omega),List.nil_append,h]
theorem pa(w:Nat)(n:Int)(q:List Nat)(a wd:Nat)(b:w<=a):nAt (be w n++q) a wd=nAt q (a-w) wd:=KG _ _ _ _ _ (gF _ _) b
theorem ni(w:Nat)(n:Int)(q:List Nat):nAt (be w n++q) 0 w=nb (be w n):=QA [] q (be w n) 0 w rfl (gF _ _)
theorem kp(q:List Nat)(a wd:Nat)(b:4<=a):nAt ([97,108,105,49]++q) a wd=nAt q (a-4) wd:=KG _ _ _ _ _ rfl b
theorem Sj(f:FrD)(h:FrR f):frL (nt f)=f:=by
 obtain⟨Q,M,C,v,z,B,t,D,A,r,K,J,O,R,L⟩:=h
 have E:nt f=[97,108,105,49]++(be 1 f.kind++(be 1 f.src++(be 1 f.dst++(be 1 f.who++(be 2 f.boot++(be 2 f.seq++(be 8 f.stamp++(be 8 f.t1++(be 8 f.t2++(be 8 f.when++(be 4 f.x++(be 4 f.y++(be 8 f.a++(be 8 f.b++(be 8 f.d++be 4 (crc (Cb f))))))))))))))))):=by
  unfold nt;rw[Ka];simp only[List.append_assoc]
 have q:∀n:Int,((nb (be 1 n):Nat):Int)=n%256:=fun n=>KD 1 n;have F:∀n:Int,((nb (be 2 n):Nat):Int)=n%65536:=fun n=>KD 2 n;have G:∀n:Int,((nb (be 4 n):Nat):Int)=n%4294967296:=fun n=>KD 4 n;have j:∀n:Int,((nb (be 8 n):Nat):Int)=n%18446744073709551616:=fun n=>KD 8 n;have i:nAt (nt f) 4 1=nb (be 1 f.kind):=by rw[E];simp(decide:=true) only [kp,pa,ni,Nat.reduceSub,Nat.sub_self]
 have o:nAt (nt f) 5 1=nb (be 1 f.src):=by rw[E];simp(decide:=true) only [kp,pa,ni,Nat.reduceSub,Nat.sub_self]
 have m:nAt (nt f) 6 1=nb (be 1 f.dst):=by rw[E];simp(decide:=true) only [kp,pa,ni,Nat.reduceSub,Nat.sub_self]
 have p:nAt (nt f) 7 1=nb (be 1 f.who):=by rw[E];simp(decide:=true) only [kp,pa,ni,Nat.reduceSub,Nat.sub_self]
 have g:nAt (nt f) 8 2=nb (be 2 f.boot):=by rw[E];simp(decide:=true) only [kp,pa,ni,Nat.reduceSub,Nat.sub_self]
 have l:nAt (nt f) 10 2=nb (be 2 f.seq):=by rw[E];simp(decide:=true) only [kp,pa,ni,Nat.reduceSub,Nat.sub_self]
 have c:nAt (nt f) 12 8=nb (be 8 f.stamp):=by rw[E];simp(decide:=true) only [kp,pa,ni,Nat.reduceSub,Nat.sub_self]
 have u:nAt (nt f) 20 8=nb (be 8 f.t1):=by rw[E];simp(decide:=true) only [kp,pa,ni,Nat.reduceSub,Nat.sub_self]
 have w:nAt (nt f) 28 8=nb (be 8 f.t2):=by rw[E];simp(decide:=true) only [kp,pa,ni,Nat.reduceSub,Nat.sub_self]
 have e:nAt (nt f) 36 8=nb (be 8 f.when):=by rw[E];simp(decide:=true) only [kp,pa,ni,Nat.reduceSub,Nat.sub_self]
 have N:nAt (nt f) 44 4=nb (be 4 f.x):=by rw[E];simp(decide:=true) only [kp,pa,ni,Nat.reduceSub,Nat.sub_self]
 have I:nAt (nt f) 48 4=nb (be 4 f.y):=by rw[E];simp(decide:=true) only [kp,pa,ni,Nat.reduceSub,Nat.sub_self]
 have S:nAt (nt f) 52 8=nb (be 8 f.a):=by rw[E];simp(decide:=true) only [kp,pa,ni,Nat.reduceSub,Nat.sub_self]
 have P:nAt (nt f) 60 8=nb (be 8 f.b):=by rw[E];simp(decide:=true) only [kp,pa,ni,Nat.reduceSub,Nat.sub_self]
 have H:nAt (nt f) 68 8=nb (be 8 f.d):=by rw[E];simp(decide:=true) only [kp,pa,ni,Nat.reduceSub,Nat.sub_self]
 unfold frL;rw[i,o,m,p,g,l,c,u,w,e,N,I,S,P,H];obtain⟨k,s,bo,V,Z,Y,U,T,X,W,x,y,a,b,d⟩:=f;simp only at Q M C v z B t D A r K J O R L ⊢;rw[FrD.mk.injEq];refine⟨zf _ _ 256 (q _) (by omega) (by omega) (by omega) (by omega),zf _ _ 256 (q _) (by omega) (by omega) (by omega) (by omega),zf _ _ 65536 (F _) (by omega) (by omega) (by omega) (by omega),zf _ _ 65536 (F _) (by omega) (by omega) (by omega) (by omega),uB _ _ (j _) (by omega) (by omega),zf _ _ 256 (q _) (by omega) (by omega) (by omega) (by omega),uB _ _ (j _) (by omega) (by omega),uB _ _ (j _) (by omega) (by omega),zf _ _ 256 (q _) (by omega) (by omega) (by omega) (by omega),uB _ _ (j _) (by omega) (by omega),Jg _ _ (G _) (by omega) (by omega),Jg _ _ (G _) (by omega) (by omega),uB _ _ (j _) (by omega) (by omega),uB _ _ (j _) (by omega) (by omega),uB _ _ (j _) (by omega) (by omega)⟩
theorem Sy(f:FrD)(h:pl f=true):decE (nt f)=(f,0):=by
 have b:=Sj f (LS f h);unfold decE;rw[if_neg (by rw[J5];omega),if_neg (by rw[J5];rintro(h|h);omega;exact h (PZ f)),if_neg (fun a=>a (Ss f)),b,if_pos h]
theorem QC{e g:El}{t u v s:Int}(h:atE e t u v s=(g,0)):growE e (v*ticksE t u s)=(g,0):=by
 unfold atE at h;split at h
 ·exact(SW h).1
 ·injection h with _ h2;cases h2
end Go.Proofs.YtechbdnhalmobaaGreatDoor
