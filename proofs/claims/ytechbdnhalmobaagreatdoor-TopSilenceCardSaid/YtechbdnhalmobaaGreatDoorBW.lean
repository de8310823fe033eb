/- Walks. -/
import Derived.Test.YtechbdnhalmobaaGreatDoorBA
import Derived.WalkKit
import Derived.WalkSpells
import Derived.WalkLawsBesides
import Derived.BigQuiet
import Derived.Deep.QuietTactic
import Derived.Deep.RegionHeld3
import Derived.Laws.Externs
import Derived.Shelf.Spec.BitsCarry
import Derived.Lib.Mul64
import Derived.Test.YtechbdnhalmobaaGreatDoorLn
import Derived.Laws.Bits64b
import Derived.StillTailTactics
import Derived.Laws.CopyOwn
import Derived.Deep.RegionLaw
open Go.Proofs.Tryz
set_option maxRecDepth 100000
set_option maxHeartbeats 16000000
namespace Go.Proofs.YtechbdnhalmobaaGreatDoor
set_option linter.unusedSimpArgs false
set_option linter.unusedVariables false
open Go.RowKit
abbrev zR(f:FuncId)(a:Array Value)(w:World)(v:Value):Prop:=Calls prog f a w fun e w1=>e=.returned v/\Below w.heap.size w w1
abbrev zX(w:World)(f:FuncId)(a:Array Value)(v:Value):Prop:=Hid (∀w1,Below w.heap.size w w1->zR f a w1 v)
theorem zJ(x y c:Int)(g:0<=x)(b:0<=y)(d:x<18446744073709551616)(f:y<18446744073709551616)(a:0<=c)(h:c<=1)(w:World):(callFunc 202 #[.int .u64 x,.int .u64 y,.int .u64 c]).run prog w =
  .ok (.value (.tuple #[.int .u64 ((x+y+c)%18446744073709551616),.int .u64 ((x+y+c)/18446744073709551616)])) w:=by
 obtain⟨x,rfl⟩:=Int.eq_ofNat_of_zero_le g;obtain⟨y,rfl⟩:=Int.eq_ofNat_of_zero_le b;obtain⟨c,rfl⟩:=Int.eq_ofNat_of_zero_le a;rw[run_callFunc_extern func202 (by kernel_rfl) (by kernel_rfl) (by kernel_rfl) (e:=add64Entry) (by kernel_rfl),run_add64 x y c (by omega) (by omega) (by omega) (by omega)];rfl
theorem zI(N M i:Nat)(w:World):(callFunc 202 #[.int .u64 (wd N i),.int .u64 (wd M i),.int .u64 (gH N M i)]).run prog w =
  .ok (.value (.tuple #[.int .u64 (wd (N+M) i),.int .u64 (gH N M (i+1))])) w:=by
 rw[zJ _ _ _ (fu _ _) (fu _ _) (tN _ _) (tN _ _) (rC _ _ _) (BV _ _ _),zE,wH]
theorem CH(x y b:Int)(g:0<=x)(c:0<=y)(f:y<18446744073709551616)(a:0<=b)(i:b<=1)(w:World):(callFunc 269 #[.int .u64 x,.int .u64 y,.int .u64 b]).run prog w =
  .ok (.value (.tuple #[.int .u64 ((x-y-b)%18446744073709551616),.int .u64 (if x<y+b then 1 else 0)])) w:=by
 obtain⟨x,rfl⟩:=Int.eq_ofNat_of_zero_le g;obtain⟨y,rfl⟩:=Int.eq_ofNat_of_zero_le c;obtain⟨b,rfl⟩:=Int.eq_ofNat_of_zero_le a;have d:(((x+18446744073709551616-y-b)%18446744073709551616:Nat):Int)=((x:Int)-y-b)%18446744073709551616:=by omega
 have h:((if x<y+b then 1 else 0:Nat):Int)=if (x:Int)<y+b then 1 else 0:=by split<;>split<;>omega
 rw[<-d,<-h];rw[run_callFunc_extern func269 (by kernel_rfl) (by kernel_rfl) (by kernel_rfl) (e:=sub64Entry) (by kernel_rfl),run_sub64 x y b (by omega)];rfl
theorem xg(N M i:Nat)(a:M<=N)(w:World):(callFunc 269 #[.int .u64 (wd N i),.int .u64 (wd M i),.int .u64 (jq N M i)]).run prog w =
  .ok (.value (.tuple #[.int .u64 (wd (N-M) i),.int .u64 (jq N M (i+1))])) w:=by
 rw[CH _ _ _ (fu _ _) (fu _ _) (tN _ _) (rD _ _ _) (BW _ _ _),xf _ _ _ a,wJ]
theorem aO:(prog.info? 151).map (·.size)=some 16:=by kernel_rfl
theorem aE:(prog.info? 153).map (·.size)=some 18:=by kernel_rfl
theorem eT(b o N:Nat)(w:World)(h:N<W16)(j:dm w b o N):Calls prog 200 #[.pointer (some ⟨b,o,none⟩)] w fun e m=>e=.returned (.int .i64 (np N))/\w=m:=by
 have l:=Lh h;clear h;go_enter func200,ntmps200;go_wp2
 go_loop [3] (fun i=>∃k:Nat,k<=16/\i=.int .i64 k/\LtW N k) (fun i=>(intOf i).toNat)
 case atStart=>exact⟨16,by omega,rfl,.of16 l.out⟩
 case round=>
  obtain⟨k,q,rfl,a⟩:=hrel;rcases k with _|k
  ·have e:np N=0:=Nat.le_zero.1 ((bX N 0).2 a);have E:=Lh e;clear e;go_wp2
   go_ret;exact⟨cq (by rw[E.out];rfl),rfl⟩
  ·have n:w.cell? ⟨b,o+k,none⟩=some (.int .u64 (wd N k)):=(j k (by omega)).1;have p:(0:Int)<(k:Int)+1:=by omega
   by_cases c:wdn N k=0
   ·have f:(wd N k==0)=true:=by simp[wd,c]
    have g:=cg N k a c;have d:LtW N k:=g;clear c g;go_wp2
    go_round
    case rel=>exact⟨k,by omega,by go_num,d⟩
    case measure=>simp[intOf]<;>omega
   ·have f:(wd N k==0)=false:=by simp[wd];omega
    have e:np N=k+1:=nQ N (k+1) a (.inr (fv N k c));have E:=Lh e;clear c e;go_wp2
    go_ret;exact⟨cq (by rw[E.out];simp),rfl⟩
theorem ru(N M k:Nat)(h:Hid (N/2^(64*(k+1))=M/2^(64*(k+1))))(a:wd N k<wd M k):eE N M=-1:=by
 unfold eE;rw[if_pos (my N M k h.out a)]
theorem rv(N M k:Nat)(h:Hid (N/2^(64*(k+1))=M/2^(64*(k+1))))(a:wd M k<wd N k):eE N M=1:=by
 have:=my M N k h.out.symm a;unfold eE;rw[if_neg (by omega),if_pos this]
theorem wC(N:Nat):eE N N=0:=by unfold eE;simp
theorem kD(b o n m N M:Nat)(w:World)(r:N<W16)(p:M<W16)(A:dm w b o N)(x:dm w n m M):zR 206 #[.pointer (some ⟨b,o,none⟩),.pointer (some ⟨n,m,none⟩)] w (.int .i64 (eE N M)):=by
 have z:=Lh r;have y:=Lh p;clear r p;go_enter func206,ntmps206;go_wp2
 go_loopw [5] (fun i wr=>∃k:Int,-1<=k/\k<=15/\i=.int .i64 k/\Hid (N/2^(64*(k+1).toNat)=M/2^(64*(k+1).toNat))/\zB w wr) (fun i _=>(intOf i+1).toNat)
 case atStart=>
  refine⟨15,by omega,by omega,rfl,?_,Below.refl _ _⟩;exact(LtW.div (LtW.of_eq (by decide) z.out)).trans (LtW.div (LtW.of_eq (by decide) y.out)).symm
 case round=>
  obtain⟨k,u,F,rfl,d,f⟩:=hrel;by_cases B:0<=k
  ·obtain⟨k,rfl⟩:=Int.eq_ofNat_of_zero_le B;have e:k<16:=by omega
   have D:wr.cell? ⟨b,o+k,none⟩=some (.int .u64 (wd N k)):=(A.below f k e).1;have E:wr.cell? ⟨n,m+k,none⟩=some (.int .u64 (wd M k)):=(x.below f k e).1;have h:(k:Int)<16:=by omega
   have c:Hid (N/2^(64*(k+1))=M/2^(64*(k+1))):=by
    have:=d.out;rw[show((k:Int)+1).toNat=k+1 by omega] at this;exact this
   have a:=Lh f;clear d f;by_cases g:wd N k<wd M k
   ·go_wp2
    go_quiet (fail)
    go_wp2
    go_ret;exact⟨cq (ru N M k c g).symm,by first|exact a.out|exact below_drewN a.out _|exact below_drewN (below_drewN a.out _) _⟩
   ·by_cases j:wd M k<wd N k
    ·have l:decide (wd N k<wd M k)=false:=decide_eq_false g;go_wp2
     go_quiet (fail)
     go_wp2
     go_quiet (fail)
     go_wp2
     go_ret;exact⟨cq (rv N M k c j).symm,by first|exact a.out|exact below_drewN a.out _|exact below_drewN (below_drewN a.out _) _⟩
    ·have l:decide (wd N k<wd M k)=false:=decide_eq_false g;have t:decide (wd M k<wd N k)=false:=decide_eq_false j;have q:=uV N M k c.out g j;have C:=Lh q;clear q;go_wp2
     go_quiet (fail)
     go_wp2
     go_quiet (fail)
     go_wp2
     go_roundw
     case rel=>
      refine⟨(k:Int)-1,by omega,by omega,rfl,?_,by first|exact a.out|exact below_drewN a.out _|exact below_drewN (below_drewN a.out _) _⟩;have:=C.out;rw[show((k:Int)-1+1).toNat=k by omega];exact this
     case measure=>simp[intOf]<;>omega
  ·have:k=-1:=by omega
   subst this
   have s:eE N M=0:=by
    have:=d.out;rw[show((-1:Int)+1).toNat=0 by omega] at this;simp at this;subst this;exact wC N
   have v:=Lh s;have a:=Lh f;clear s f d;go_wp2
   go_ret;exact⟨cq v.out.symm,by first|exact a.out|exact below_drewN a.out _|exact below_drewN (below_drewN a.out _) _⟩
theorem zH(b o g h:Nat)(N M:Nat)(w:World)(r:dm w b o N)(q:dm w g h M):zR 205 #[.pointer (some ⟨b,o,none⟩),.pointer (some ⟨g,h,none⟩)] w (.tuple #[.agg (rowW 16 (N+M)),.int .u64 (gH N M 16)]):=by
 go_enter func205,ntmps205;go_wp2
 go_loopw [7,9] (fun c i wr=>∃k:Nat,k<=16/\i=.int .i64 k/\c=.int .u64 (gH N M k)/\zB w wr/\Blk wr (w.heap.size+1) (rowW 16 ((N+M)%2^(64*k))) 151/\Blk wr w.heap.size (rowW 16 0) 151) (fun _ i _=>16-(intOf i).toNat)
 case atStart=>
  refine⟨0,by omega,rfl,by rw[wG],((Below.refl _ _).alloc (Nat.le_refl _) _).alloc (by simp) _,?_,?_⟩
  ·rw[show(N+M)%2^(64*0)=0 by simp[Nat.mod_one],cG];exact Blk.new' _ _ _ (by simp)
  ·rw[cG];exact(Blk.new _ _ _).alloc _
 case round=>
  obtain⟨k,F,rfl,rfl,e,d,j⟩:=hrel;by_cases a:k<16
  ·have C:wr.cell? ⟨b,o+k,none⟩=some (.int .u64 (wd N k)):=(r.below e k a).1;have D:wr.cell? ⟨g,h+k,none⟩=some (.int .u64 (wd M k)):=(q.below e k a).1;have E:wr.cell? ⟨w.heap.size+1,k,none⟩=some (.int .u64 (wd ((N+M)%2^(64*k)) k)):=d.cell (cL _ _ _ a);have G:wr.frozen? ⟨w.heap.size+1,k,none⟩=false:=d.frozen k;have B:(k:Int)<16:=by omega
   have x:(0:Int)<=k:=by omega
   have t:=fun w=>zI N M k w;have A:w.heap.size+1≠b:=by have:=r.lt;omega
   have z:w.heap.size+1≠g:=by have:=q.lt;omega
   have n:=Lh e;have l:=Lh d;have m:=Lh j;clear e d j;go_wp2
   go_region_held3 (fun s=>s.cell? ⟨b,o+k,none⟩=some (.int .u64 (wd N k))/\s.cell? ⟨g,h+k,none⟩=some (.int .u64 (wd M k))) (go_keep) (fail)
   go_wp2
   refine⟨⟨k+1,by omega,by go_num,rfl,?_,?_,?_⟩,by simp[intOf];omega⟩
   ·exact n.out.drew.setCell (by simp) _
   ·rw[<-gR];exact l.out.drew.ab _ _
   ·exact m.out.drew.ac (by simp) _
  ·have f:k=16:=by omega
   subst f;rw[mi] at d;have n:=Lh e;have y:=Lh (Blk.ee j (rowW 16 (N+M)));clear e;go_wp2_with (first|(refine wpList_load_row rfl 151 _ rfl _ rfl 151 _ (0,0) _ d underlying151 rfl (by rw[aD];exact aO) ?_)|(refine wpList_store_row rfl 151 _ _ rfl _ _ rfl rfl 151 _ j (by rw[aD];exact aO) (by rw[aD,aD]) (bN _ _) ?_))
   exact bodyPost_ret (v:=.tuple #[.agg (rowW 16 (N+M)),.int .u64 (gH N M 16)]) (by exact cM (p:=4) (u:=5) (ty:=151) rfl _ _ _ _ _ _ rfl y.out underlying151 rfl (by rw[aD];exact aO)) rfl ⟨rfl,cJ n.out (by omega) _⟩
theorem CG(b o g h:Nat)(N M:Nat)(m:M<=N)(w:World)(s:dm w b o N)(r:dm w g h M):zR 207 #[.pointer (some ⟨b,o,none⟩),.pointer (some ⟨g,h,none⟩)] w (.agg (rowW 16 (N-M))):=by
 go_enter func207,ntmps207;go_wp2
 go_loopw [6,8] (fun c i wr=>∃k:Nat,k<=16/\i=.int .i64 k/\c=.int .u64 (jq N M k)/\zB w wr/\Blk wr (w.heap.size+1) (rowW 16 ((N-M)%2^(64*k))) 151/\Blk wr w.heap.size (rowW 16 0) 151) (fun _ i _=>16-(intOf i).toNat)
 case atStart=>
  refine⟨0,by omega,rfl,by rw[wI],((Below.refl _ _).alloc (Nat.le_refl _) _).alloc (by simp) _,?_,?_⟩
  ·rw[show(N-M)%2^(64*0)=0 by simp[Nat.mod_one],cG];exact Blk.new' _ _ _ (by simp)
  ·rw[cG];exact(Blk.new _ _ _).alloc _
 case round=>
  obtain⟨k,F,rfl,rfl,e,d,j⟩:=hrel;by_cases a:k<16
  ·have C:wr.cell? ⟨b,o+k,none⟩=some (.int .u64 (wd N k)):=(s.below e k a).1;have D:wr.cell? ⟨g,h+k,none⟩=some (.int .u64 (wd M k)):=(r.below e k a).1;have E:wr.cell? ⟨w.heap.size+1,k,none⟩=some (.int .u64 (wd ((N-M)%2^(64*k)) k)):=d.cell (cL _ _ _ a);have G:wr.frozen? ⟨w.heap.size+1,k,none⟩=false:=d.frozen k;have B:(k:Int)<16:=by omega
   have x:(0:Int)<=k:=by omega
   have u:=fun w=>xg N M k m w;have A:w.heap.size+1≠b:=by have:=s.lt;omega
   have z:w.heap.size+1≠g:=by have:=r.lt;omega
   have q:=Lh e;have l:=Lh d;have n:=Lh j;clear e d j;go_wp2
   go_region_held3 (fun t=>t.cell? ⟨b,o+k,none⟩=some (.int .u64 (wd N k))/\t.cell? ⟨g,h+k,none⟩=some (.int .u64 (wd M k))) (go_keep) (fail)
   go_wp2
   refine⟨⟨k+1,by omega,by go_num,rfl,?_,?_,?_⟩,by simp[intOf];omega⟩
   ·exact q.out.drew.setCell (by simp) _
   ·rw[<-gR];exact l.out.drew.ab _ _
   ·exact n.out.drew.ac (by simp) _
  ·have f:k=16:=by omega
   subst f;rw[mi] at d;have q:=Lh e;have y:=Lh (Blk.ee j (rowW 16 (N-M)));clear e;go_wp2_with (first|(refine wpList_load_row rfl 151 _ rfl _ rfl 151 _ (0,0) _ d underlying151 rfl (by rw[aD];exact aO) ?_)|(refine wpList_store_row rfl 151 _ _ rfl _ _ rfl rfl 151 _ j (by rw[aD];exact aO) (by rw[aD,aD]) (bN _ _) ?_))
   exact bodyPost_ret (v:=.agg (rowW 16 (N-M))) (by exact ke (p:=4) (ty:=151) rfl _ _ _ _ _ _ rfl y.out underlying151 rfl (by rw[aD];exact aO)) rfl ⟨rfl,cJ q.out (by omega) _⟩
end Go.Proofs.YtechbdnhalmobaaGreatDoor
namespace Go.Proofs.YtechbdnhalmobaaGreatDoor
open Go.RowKit Go.Lib
namespace Mu
theorem maskN(a:Nat)(b:a<18446744073709551616):bits .and .u64 (a:Int) 4294967295=((a%4294967296:Nat):Int):=by
 have h:=bits_and_u64_nat a 4294967295 b (by omega);have e:a&&&4294967295=a%4294967296:=Nat.and_two_pow_sub_one_eq_mod a 32;rw[e] at h;exact h
theorem divN(a:Nat):(a:Int)/4294967296=((a/4294967296:Nat):Int):=by omega
theorem mulN(a b:Nat):(a:Int)*(b:Int)=((a*b:Nat):Int):=(Int.natCast_mul a b).symm
theorem addN(a b:Nat):(a:Int)+(b:Int)=((a+b:Nat):Int):=(Int.natCast_add a b).symm
theorem wrapN(a:Nat)(b:a<18446744073709551616):IntKind.u64.wrap (a:Int)=(a:Int):=by rw [IntKind.wrap_u64];omega
theorem wrapM(a:Nat):IntKind.u64.wrap (a:Int)=((a%18446744073709551616:Nat):Int):=by rw [IntKind.wrap_u64];omega
end Mu
theorem Be(x y:Nat)(j:x<18446744073709551616)(i:y<18446744073709551616)(w:World):Calls prog 201 #[.int .u64 x,.int .u64 y] w fun e l=>e=.returned (.tuple #[.int .u64 ((x*y/18446744073709551616:Nat):Int),.int .u64 ((x*y%18446744073709551616:Nat):Int)])/\w=l:=by
 obtain⟨bd,k,n,h⟩:=Lib.mul64_hi x y j i;have p:=Lib.half_mul_le (a:=x/4294967296) (b:=y/4294967296) (by omega) (by omega);have q:=Lib.half_mul_le (a:=x/4294967296) (b:=y%4294967296) (by omega) (by omega);have o:=Lib.half_mul_le (a:=x%4294967296) (b:=y/4294967296) (by omega) (by omega);have c:x/4294967296*(y/4294967296)<18446744073709551616:=by omega
 have f:x/4294967296*(y%4294967296)<18446744073709551616:=by omega
 have d:x%4294967296*(y/4294967296)<18446744073709551616:=by omega
 have g:x/4294967296*(y/4294967296)+(x/4294967296*(y%4294967296)+x%4294967296*(y%4294967296)/4294967296)/4294967296<18446744073709551616:=by omega
 have m:x/4294967296*(y/4294967296)+(x/4294967296*(y%4294967296)+x%4294967296*(y%4294967296)/4294967296)/4294967296+((x/4294967296*(y%4294967296)+x%4294967296*(y%4294967296)/4294967296)%4294967296+x%4294967296*(y/4294967296))/4294967296<18446744073709551616:=by omega
 go_enter func201,ntmps201;go_wp2
 simp only[Mu.maskN x j,Mu.maskN y i,Mu.divN,Mu.mulN,Mu.addN,Mu.wrapN _ bd,Mu.wrapN _ f,Mu.wrapN _ k,Mu.maskN _ k,Mu.wrapN _ d,Mu.wrapN _ n,Mu.wrapN _ c,Mu.wrapN _ g,Mu.wrapN _ m,Mu.wrapM (x*y)];rw[h];go_ret2
 exact⟨rfl,rfl⟩
end Go.Proofs.YtechbdnhalmobaaGreatDoor
namespace Go.Proofs.YtechbdnhalmobaaGreatDoor
open Go.RowKit
theorem jG:(prog.info? 53).map (·.size)=some 1:=by kernel_rfl
@[go_sem] theorem BG(w : World)(N M : Nat):(Op.equalIn 10000 151 (.agg (rowW 16 N)) (.agg (rowW 16 M))).run prog w=.ok (eqW N M) w:=
  kJ 9998 151 53 16 N M w underlying151 underlying53 jG
theorem eF:cellsI false false 0=#[.bool false,.bool false,.int .u64 0,.int .u64 0,.int .u64 0,.int .u64 0,.int .u64 0,.int .u64 0,.int .u64 0,.int .u64 0,.int .u64 0,.int .u64 0,.int .u64 0,.int .u64 0,.int .u64 0,.int .u64 0,.int .u64 0,.int .u64 0]:=by
 rw[cellsI,cG];rfl
@[go_sem ↓] theorem lG(w : World):(zeroValue 153).run prog w=.ok (.agg (cellsI false false 0)) w:=by
  rw[eF];exact zeroValue153 w
@[go_sem ↓] theorem Ev(w : World):(zeroValue 151).run prog w=.ok (.agg (rowW 16 0)) w:=by
  rw[cG];exact zeroValue151 w
theorem BZ(b o:Nat)(w:World)(c:0<W16)(d:dm w b o 0):Calls prog 263 #[.pointer (some ⟨b,o,none⟩)] w fun e a=>e=.returned (.int .i64 (bl 0))/\w=a:=by
 have f:=Lh c;clear c;go_enter func263,ntmps263;go_wp2_with (go_at_call 200;refine(eT _ _ _ _ f.out d).mono ?_;rintro e a ⟨rfl,rfl⟩;rw[show np 0=0 from rfl])
 go_ret;exact⟨rfl,rfl⟩
theorem eH(b o N:Nat)(w:World)(r:N<W16)(k:dm w b o N):Calls prog 263 #[.pointer (some ⟨b,o,none⟩)] w fun e l=>e=.returned (.int .i64 (bl N))/\w=l:=by
 have j:=Lh r;clear r;by_cases p:N=0
 ·subst p;exact BZ b o w j.out k
 ·obtain⟨n,i⟩:∃n,np N=n+1:=⟨np N-1,by have:np N≠0:=fun h=>p ((kl N).1 h);omega⟩;have a:N<2^(64*(n+1)):=by rw[<-i];exact kn N
  have f:wdn N n≠0:=by
   intro h;have:=(bX N n).2 (cg N n a h);omega
  have c:n<16:=by have:=(bX N 16).2 (LtW.of16 j.out);omega
  have d:=En N n a f;have v:w.cell? ⟨b,o+n,none⟩=some (.int .u64 (wd N n)):=(k n c).1;have g:bl (wdn N n)<=64:=(cE _ _).2 (bB N n);have t:(n:Int)<16:=by omega
  have s:((n:Int)+1==0)=false:=by simp;omega
  have q:(bl (wd N n).toNat:Int)<=64:=by rw[show(wd N n).toNat=wdn N n by unfold wd;omega];omega
  have u:=Lh d;have y:=Lh f;have x:=Lh a;have m:=Lh i;clear d f a i g p;go_enter func263,ntmps263;go_wp2_with (first|(go_at_call 200;refine(eT _ _ _ _ j.out k).mono ?_;rintro e l ⟨rfl,rfl⟩;rw[m.out,Int.natCast_succ])|(go_at_call 240;refine(ul _ _ (fu _ _) (tN _ _)).mono ?_;rintro e l ⟨rfl,rfl⟩))
  go_ret;exact⟨cq (by rw[u.out];simp[wd]),rfl⟩
theorem dW(w:World):zR 199 #[] w (.agg (cellsI false true 0)):=by
 go_enter func199,ntmps199;go_wp2
 exact ak 18 (cellsI false true 0) rfl rfl rfl underlying153 rfl aE (by go_simp) ⟨rfl,(Below.refl _ _).alloc (Nat.le_refl _) _⟩
theorem fL(n:Bool)(N:Nat)(l:N<W16)(w:World):zR 203 #[n,.agg (rowW 16 N)] w (.agg (WI.of (sgn n N)).cells):=by
 have c:=Lh l;clear l;by_cases m:bl N<=1023
 ·have E:=Lh (WI.pp (n:=n) m);have g:(bl N:Int)<=1023:=by omega
  cases n with
  | false=>
   go_enter func203,ntmps203;go_wp2_with (first|(go_at_call 263;refine(eH _ _ _ _ c.out (.bT (Blk.new _ _ _ |>.alloc _))).mono ?_;rintro e j ⟨rfl,rfl⟩))
   refine dv 8 (by kernel_rfl) (by kernel_rfl) ?_;simp only[List.take_succ_cons,List.take_zero,List.drop_succ_cons,List.drop_zero];repeat still_step
   try refine wpStill_nil ?_
   go_wp2
   exact ak 18 (cellsI false false N) rfl rfl rfl underlying153 rfl aE (by go_simp) ⟨by rw[E.out];rfl,(((Below.refl _ _).alloc (Nat.le_refl _) _).alloc (by simp) _).drew⟩
  | true=>
   have f:=eD N c.out;have HQ:=Lh f;clear f;by_cases b:N=0
   ·have f:eqW N 0=true:=by rw[HQ.out];simp[b]
    have i:=Lh b;clear b;go_enter func203,ntmps203;go_wp2_with (first|(go_at_call 263;refine(eH _ _ _ _ c.out (.bT (Blk.new _ _ _ |>.alloc _))).mono ?_;rintro e j ⟨rfl,rfl⟩))
    refine dv 8 (by kernel_rfl) (by kernel_rfl) ?_;simp only[List.take_succ_cons,List.take_zero,List.drop_succ_cons,List.drop_zero];repeat still_step
    try refine wpStill_nil ?_
    go_wp2
    exact ak 18 (cellsI false false N) rfl rfl rfl underlying153 rfl aE (by go_simp) ⟨by rw[E.out,i.out];rfl,(((Below.refl _ _).alloc (Nat.le_refl _) _).alloc (by simp) _).drew⟩
   ·have f:eqW N 0=false:=by rw[HQ.out];simp[b]
    have i:=Lh b;clear b;go_enter func203,ntmps203;go_wp2_with (first|(go_at_call 263;refine(eH _ _ _ _ c.out (.bT (Blk.new _ _ _ |>.alloc _))).mono ?_;rintro e j ⟨rfl,rfl⟩))
    refine dv 8 (by kernel_rfl) (by kernel_rfl) ?_;simp only[List.take_succ_cons,List.take_zero,List.drop_succ_cons,List.drop_zero];repeat still_step
    try refine wpStill_nil ?_
    go_wp2
    exact ak 18 (cellsI true false N) rfl rfl rfl underlying153 rfl aE (by go_simp) ⟨by rw[E.out];simp[i.out],(((Below.refl _ _).alloc (Nat.le_refl _) _).alloc (by simp) _).drew⟩
 ·have E:=Lh (WI.qD (n:=n) (N:=N) (by omega));have g:(1023:Int)<bl N:=by omega
  go_enter func203,ntmps203;go_wp2_with (first|(go_at_call 263;refine(eH _ _ _ _ c.out (.bT (Blk.new _ _ _ |>.alloc _))).mono ?_;rintro e j ⟨rfl,rfl⟩)|(go_at_call 199;refine(dW _).mono ?_;rintro e o ⟨rfl,a⟩;have d:=a.size;(try simp at d);have h:=bq a (w.heap.size);have k:=bq a (w.heap.size+1)))
  exact ak 18 (cellsI false true 0) rfl rfl rfl underlying153 rfl aE (by go_simp) ⟨by rw[E.out],ae⟩
end Go.Proofs.YtechbdnhalmobaaGreatDoor
namespace Go.Proofs.YtechbdnhalmobaaGreatDoor
open Go.RowKit
theorem WI.add_over(x y:WI)(h:x.ov=true∨y.ov=true):x.add y=WI.over:=by
 unfold WI.add;unfold WI.ov at h;cases hx:x.v<;>cases hy:y.v<;>simp_all
theorem WI.br{x:WI}(h:x.ov=false):x.v=some (sgn x.ng x.sz):=by
 unfold WI.ov at h;unfold WI.ng WI.sz sgn;cases hx:x.v with
 | none=>rw[hx] at h;cases h
 | some z=>simp;by_cases a:z<0<;>simp[a]<;>omega
theorem WI.ju{x y:WI}(a:x.ov=false)(b:y.ov=false):x.add y=WI.of (sgn x.ng x.sz+sgn y.ng y.sz):=by
 unfold WI.add;rw[WI.br a,WI.br b]
theorem iU(n:Bool)(N M:Nat):sgn n N+sgn n M=sgn n (N+M):=by unfold sgn;cases n<;>simp<;>omega
theorem lW(n m:Bool)(N M:Nat)(h:n≠m)(a:M<=N):sgn n N+sgn m M=sgn n (N-M):=by
 unfold sgn;cases n<;>cases m<;>simp at h ⊢ <;> omega
theorem lT(n m:Bool)(N M:Nat)(h:n≠m)(a:N<M):sgn n N+sgn m M=sgn m (M-N):=by
 unfold sgn;cases n<;>cases m<;>simp at h ⊢ <;> omega
theorem pP:lim+lim<=W16:=by
 have c:∀n m,n=m+1->(2:Nat)^m+2^m=2^n:=fun n m h=>by subst h;rw[Nat.pow_succ];omega
 have b:∀m k,m=1023->k=16->lim+lim=W16:=fun m k d a=>by
  rw[pE m d,jS k a,c (64*k) m (by omega)]
 exact Nat.le_of_eq (b 1023 16 rfl rfl)
theorem tF{N M:Nat}(h:N+M<W16):gH N M 16=0:=by
 unfold gH
 have e:∀k,k=16->N%2^(64*k)+M%2^(64*k)<2^(64*k):=fun k a=>by
  have:=pQ h a;rw[Nat.mod_eq_of_lt (by omega),Nat.mod_eq_of_lt (by omega)];exact this
 have:=Nat.div_eq_of_lt (e 16 rfl);rw[this];rfl
theorem kT(N:Nat)(h:N<18446744073709551616):(rowW 16 0).setIfInBounds 0 (.int .u64 (N:Int))=rowW 16 N:=by
 rw[cp 16 0 0 N h];congr 1
 unfold bZ;simp[pW]
theorem nD{N:Nat}(h:N<18446744073709551616):N<lim:=Nat.lt_of_lt_of_le h (by
 have:∀n,64<=n->18446744073709551616<=2^n:=fun n a=>dL 64 n a;unfold lim;exact this 1023 (by decide))
theorem rH{N:Nat}(h:N<18446744073709551616):bl N<=1023:=(iE N).2 (nD h)
theorem DD(N:Nat)(h:N<=9223372036854775807)(w:World):zR 86 #[.int .i64 (N:Int)] w (.agg (WI.of (N:Int)).cells):=by
 have E:=Lh (WI.pp (n:=false) (rH (N:=N) (by omega)));have a:IntKind.u64.wrap (N:Int)=N:=by rw[IntKind.wrap_u64];omega
 have c:=kT N (by omega);have b:¬(N:Int)<0:=by omega
 clear h;go_enter func86,ntmps86;go_wp2
 exact ak 18 (cellsI false false N) rfl rfl rfl underlying153 rfl aE (by go_simp) ⟨by have:=E.out;simp only[sgn] at this;rw[show(WI.of (N:Int)).cells=_ from this];rfl,(Below.refl _ _).alloc (Nat.le_refl _) _⟩
theorem of_neg(N:Nat)(a:0<N)(h:N<=9223372036854775808)(w:World):zR 86 #[.int .i64 (-(N:Int))] w (.agg (WI.of (-(N:Int))).cells):=by
 have E:=Lh (WI.pp (n:=true) (rH (N:=N) (by omega)));have c:IntKind.u64.wrap (-IntKind.u64.wrap (-(N:Int)))=N:=by rw[IntKind.wrap_u64,IntKind.wrap_u64];omega
 have e:=kT N (by omega);have d : -(N:Int)<0:=by omega
 have b:=Lh a;clear h a;go_enter func86,ntmps86;go_wp2
 exact ak 18 (cellsI true false N) rfl rfl rfl underlying153 rfl aE (by go_simp) ⟨by have:=E.out;simp only[sgn,if_true] at this;rw[this,show(true&&decide (N≠0))=true by have:=b.out;simp;omega],(Below.refl _ _).alloc (Nat.le_refl _) _⟩
theorem eg(z:Int)(c : -9223372036854775808<=z)(a:z<=9223372036854775807)(w:World):zR 86 #[z] w (.agg (WI.of z).cells):=by
 by_cases b:z<0
 ·obtain⟨N,rfl⟩:∃N:Nat,z=-(N:Int):=⟨z.natAbs,by omega⟩;exact of_neg N (by omega) (by omega) w
 ·obtain⟨N,rfl⟩:∃N:Nat,z=(N:Int):=⟨z.natAbs,by omega⟩;exact DD N (by omega) w
theorem add_over(x y:WI)(h:x.ov=true∨y.ov=true)(w:World):zR 155 #[.agg x.cells,.agg y.cells] w (.agg (x.add y).cells):=by
 rw[WI.add_over x y h];cases hx:x.ov with
 | true=>
  clear h;go_enter func155,ntmps155;go_wp2_with fail;refine(dW _).mono ?_;rintro e d ⟨rfl,b⟩;have a:=b.size;(try simp at a);have c:=bq3 b (w.heap.size);go_wp2
  exact ak 18 (cellsI false true 0) rfl rfl rfl underlying153 rfl aE (by go_simp) ⟨rfl,ae⟩
 | false=>
  have f:y.ov=true:=by rcases h with h|h<;>simp_all
  clear h;go_enter func155,ntmps155;go_wp2_with fail;refine(dW _).mono ?_;rintro e d ⟨rfl,b⟩;have a:=b.size;(try simp at a);have c:=bq3 b (w.heap.size);go_wp2
  exact ak 18 (cellsI false true 0) rfl rfl rfl underlying153 rfl aE (by go_simp) ⟨rfl,ae⟩
theorem zF(x y:WI)(o:x.ov=false)(m:y.ov=false)(l:y.ng=x.ng)(w:World):zR 155 #[.agg x.cells,.agg y.cells] w (.agg (x.add y).cells):=by
 have a:x.sz+y.sz<W16:=by have:=x.jX;have:=y.jX;have:=pP;omega
 rw[WI.ju o m,l,iU];have n:=tF a;have j:=Lh a;clear a;go_enter func155,ntmps155;go_wp2_with fail;refine(zH _ _ _ _ x.sz y.sz _ (.da (((Blk.new _ _ _).alloc _).alloc _)) (.da ((Blk.new' _ _ _ (by simp)).alloc _))).mono ?_;rintro e k ⟨rfl,d⟩;rw[n];have f:=d.size;(try simp at f);have g:=bq3 d (w.heap.size);go_wp2_with fail;refine(fL _ _ j.out _).mono ?_;rintro e p ⟨rfl,b⟩;have c:=b.size;(try simp at c);have h:=bq3 b (w.heap.size);have i:=bq b (k.heap.size);go_wp2
 exact ak 18 (WI.of (sgn x.ng (x.sz+y.sz))).cells rfl rfl rfl underlying153 rfl aE (by go_simp) ⟨rfl,ae⟩
theorem Es(x y:WI)(s:x.ov=false)(q:y.ov=false)(n:y.ng≠x.ng)(b:y.sz<=x.sz)(w:World):zR 155 #[.agg x.cells,.agg y.cells] w (.agg (x.add y).cells):=by
 have c:x.sz-y.sz<W16:=by have:=x.bC;omega
 have p:(0:Int)<=eE x.sz y.sz:=by unfold eE;split<;>(try split)<;>omega
 rw[WI.ju s q,lW _ _ _ _ (Ne.symm n) b];have o:=Lh c;have m:=Lh b;have r:(x.ng==y.ng)=false:=by rw[beq_eq_false_iff_ne];exact Ne.symm n
 clear c b n;go_enter func155,ntmps155;go_wp2_with fail;refine(kD _ _ _ _ x.sz y.sz _ x.bC y.bC (.da (((Blk.new _ _ _).alloc _).alloc _)) (.da ((Blk.new' _ _ _ (by simp)).alloc _))).mono ?_;rintro e u ⟨rfl,a⟩;have i:=a.size;(try simp at i);have k:=bq3 a (w.heap.size);go_wp2_with fail
 go_region_held3 (fun t=>t.cell? ⟨w.heap.size,0,none⟩=some (.bool x.ng)) (go_simp)
  (first
   | (go_at_call 207;refine(CG _ _ _ _ x.sz y.sz m.out _ (.da (Blk.keep (((Blk.new w _ _).alloc _).alloc _) a).drew) (.da (Blk.keep ((Blk.new' _ _ _ (by simp)).alloc _) a).drew)).mono ?_;rintro e z ⟨rfl,h⟩;have d:=h.size;(try simp at d);have l:=bq3 h (w.heap.size))
   | (go_at_call 203;refine(fL _ _ o.out _).mono ?_;rintro e v ⟨rfl,f⟩;have g:=f.size;(try simp at g);have j:=bq3 f (w.heap.size)))
 go_wp2
 exact ak 18 (WI.of (sgn x.ng (x.sz-y.sz))).cells rfl rfl rfl underlying153 rfl aE (by go_simp) ⟨rfl,ae⟩
theorem Er(x y:WI)(t:x.ov=false)(r:y.ov=false)(o:y.ng≠x.ng)(b:x.sz<y.sz)(w:World):zR 155 #[.agg x.cells,.agg y.cells] w (.agg (x.add y).cells):=by
 have d:y.sz-x.sz<W16:=by have:=y.bC;omega
 have c:x.sz<=y.sz:=by omega
 have q:eE x.sz y.sz<(0:Int):=by unfold eE;split<;>(try split)<;>omega
 rw[WI.ju t r,lT _ _ _ _ (Ne.symm o) b];have p:=Lh d;have n:=Lh c;have s:(x.ng==y.ng)=false:=by rw[beq_eq_false_iff_ne];exact Ne.symm o
 clear d c o b;go_enter func155,ntmps155;go_wp2_with fail;refine(kD _ _ _ _ x.sz y.sz _ x.bC y.bC (.da (((Blk.new _ _ _).alloc _).alloc _)) (.da ((Blk.new' _ _ _ (by simp)).alloc _))).mono ?_;rintro e v ⟨rfl,a⟩;have j:=a.size;(try simp at j);have l:=bq3 a (w.heap.size);go_wp2_with fail
 go_region_held3 (fun u=>u.cell? ⟨w.heap.size+1,0,none⟩=some (.bool y.ng)) (go_simp)
  (first
   | (go_at_call 207;refine(CG _ _ _ _ y.sz x.sz n.out _ (.da (Blk.keep ((Blk.new' _ _ _ (by simp)).alloc _) a).drew) (.da (Blk.keep (((Blk.new w _ _).alloc _).alloc _) a).drew)).mono ?_;rintro e A ⟨rfl,i⟩;have f:=i.size;(try simp at f);have m:=bq3 i (w.heap.size))
   | (go_at_call 203;refine(fL _ _ p.out _).mono ?_;rintro e z ⟨rfl,g⟩;have h:=g.size;(try simp at h);have k:=bq3 g (w.heap.size)))
 go_wp2
 exact ak 18 (WI.of (sgn y.ng (y.sz-x.sz))).cells rfl rfl rfl underlying153 rfl aE (by go_simp) ⟨rfl,ae⟩
theorem mV(x y:WI)(w:World):zR 155 #[.agg x.cells,.agg y.cells] w (.agg (x.add y).cells):=by
 cases hx:x.ov with
 | true=>exact add_over x y (.inl hx) w
 | false=>
  cases hy:y.ov with
  | true=>exact add_over x y (.inr hy) w
  | false=>
   by_cases a:y.ng=x.ng
   ·exact zF x y hx hy a w
   ·by_cases b:y.sz<=x.sz
    ·exact Es x y hx hy a b w
    ·exact Er x y hx hy a (by omega) w
theorem WI.qG(x:WI)(h:x.ov=true):x.neg=x:=by
 apply WI.ext';unfold WI.neg;unfold WI.ov at h;cases hx:x.v with
 | none=>rfl
 | some z=>rw[hx] at h;cases h
theorem WI.qF{x:WI}(a:x.ov=false):x.neg=WI.of (sgn (!x.ng) x.sz):=by
 unfold WI.neg;rw[WI.br a];simp only;congr 1;cases x.ng<;>simp[sgn]
theorem qH(x:WI)(w:World):zR 156 #[.agg x.cells] w (.agg x.neg.cells):=by
 cases hx:x.ov with
 | true=>
  rw[WI.qG x hx];go_enter func156,ntmps156;go_wp2_with fail;exact ak 18 x.cells rfl rfl rfl underlying153 rfl aE (by go_simp) ⟨rfl,ae⟩
 | false=>
  rw[WI.qF hx];have d:=Lh x.bC;go_enter func156,ntmps156;go_wp2_with fail;refine(fL _ _ d.out _).mono ?_;rintro e g ⟨rfl,a⟩;have b:=a.size;(try simp at b);have c:=bq a (w.heap.size);have f:=bq a (w.heap.size+1);go_wp2
  exact ak 18 (WI.of (sgn (!x.ng) x.sz)).cells rfl rfl rfl underlying153 rfl aE (by go_simp) ⟨rfl,ae⟩
theorem jY(x y:WI)(w:World):zR 85 #[.agg x.cells,.agg y.cells] w (.agg (x.sub y).cells):=by
 go_enter func85,ntmps85;go_wp2_with fail
 go_region_held3 (fun h=>h.row? w.heap.size 0 18=some x.cells/\h.row? (w.heap.size+1) 0 18=some y.cells) (go_simp)
  (first
   | (go_at_call 156;refine(qH _ _).mono ?_;rintro e j ⟨rfl,d⟩;have c:=d.size;(try simp at c);have f:=bq3 d (w.heap.size))
   | (go_at_call 155;refine(mV _ _ _).mono ?_;rintro e i ⟨rfl,a⟩;have b:=a.size;(try simp at b);have g:=bq3 a (w.heap.size)))
 go_wp2
 exact ak 18 (x.add y.neg).cells rfl rfl rfl underlying153 rfl aE (by go_simp) ⟨rfl,ae⟩
end Go.Proofs.YtechbdnhalmobaaGreatDoor
namespace Go.Proofs.YtechbdnhalmobaaGreatDoor
open Go.RowKit
theorem yb(x y w c:Nat)(k:x<18446744073709551616)(h:y<18446744073709551616)(j:w<18446744073709551616)(i:c<18446744073709551616):∃H L a f d v e b:Nat,H=x*y/18446744073709551616/\L=x*y%18446744073709551616/\L<18446744073709551616/\a=(L+w)%18446744073709551616/\f=(L+w)/18446744073709551616/\d=H+f/\d<18446744073709551616/\a<18446744073709551616/\v=(a+c)%18446744073709551616/\e=(a+c)/18446744073709551616/\
   b=d+e/\b<18446744073709551616/\v+18446744073709551616*b=x*y+w+c/\v<18446744073709551616:=by
 refine⟨_,_,_,_,_,_,_,_,rfl,rfl,Nat.mod_lt _ (by decide),rfl,rfl,rfl,?_,Nat.mod_lt _ (by decide),rfl,rfl,rfl,?_⟩
 all_goals
  have g:x*y<=18446744073709551615*18446744073709551615:=Nat.mul_le_mul (by omega) (by omega);generalize x*y=p at *;omega
theorem vL(A b x M c v a i j:Nat)(h:b+c*2^(64*(i+j))=A+x*(M%2^(64*j))*2^(64*i))(d:v+18446744073709551616*a=x*wdn M j+wdn b (i+j)+c):bZ b (i+j) v+a*2^(64*(i+(j+1)))=A+x*(M%2^(64*(j+1)))*2^(64*i):=by
 have g:=cT b (i+j);rw[cj M j,<-Nat.add_assoc i j 1,bz (i+j)]
 have e:x*(M%2^(64*j)+2^(64*j)*wdn M j)*2^(64*i)=x*(M%2^(64*j))*2^(64*i)+x*wdn M j*2^(64*(i+j)):=by
  rw[Nat.mul_add,Nat.add_mul,show 64*(i+j)=64*j+64*i by omega,Nat.pow_add];congr 1
  rw[<-Nat.mul_assoc,<-Nat.mul_assoc,Nat.mul_assoc x,Nat.mul_comm (2^(64*j)),<-Nat.mul_assoc]
 rw[e,<-Nat.add_assoc,<-h];unfold bZ;generalize 2^(64*(i+j))=p at *;have k:(v+18446744073709551616*a)*p=(x*wdn M j+wdn b (i+j)+c)*p:=by rw[d]
 simp only[Nat.add_mul] at k
 have f:a*(p*18446744073709551616)=18446744073709551616*a*p:=by
  rw[Nat.mul_comm p,<-Nat.mul_assoc,Nat.mul_comm a]
 rw[f];omega
theorem vK(A a N M c i n:Nat)(d:A=N%2^(64*i)*M)(e:M<2^(64*n))(b:a<2^(64*(i+n)))(h:a+c*2^(64*(i+n))=A+wdn N i*(M%2^(64*n))*2^(64*i)):bZ a (i+n) c=N%2^(64*(i+1))*M:=by
 rw[Nat.mod_eq_of_lt e] at h;have f:wdn a (i+n)+c=c:=by rw[co a (i+n) (i+n) b (Nat.le_refl _)];omega
 rw[fZ _ _ _ _ f,h,d,cj,Nat.add_mul];congr 1
 rw[Nat.mul_comm (2^(64*i)),Nat.mul_assoc,Nat.mul_assoc,Nat.mul_comm M]
theorem vM(N M i n:Nat)(c:M<2^(64*n)):N%2^(64*i)*M<2^(64*(i+n)):=by
 rw[show 64*(i+n)=64*i+64*n by omega,Nat.pow_add];have b:=Nat.mod_lt N (Nat.two_pow_pos (64*i));rcases Nat.eq_zero_or_pos M with rfl|a
 ·rw[Nat.mul_zero];exact Nat.mul_pos (Nat.two_pow_pos _) (Nat.two_pow_pos _)
 ·exact Nat.lt_of_lt_of_le (Nat.mul_lt_mul_of_pos_right b a) (Nat.mul_le_mul_left _ (Nat.le_of_lt c))
theorem WI.iJ(x:WI)(i:Nat)(h:i<16):x.cells[2+i]?=some (.int .u64 ((wdn x.sz i:Nat):Int)):=by
 rw[x.dc];exact kE _ _ _ i h
theorem aZ(n N i:Nat)(h:i<n):(rowW n N)[i]?=some (.int .u64 ((wdn N i:Nat):Int)):=cL n N i h
theorem eU(X Y H L:Nat)(g:X<18446744073709551616)(h:Y<18446744073709551616)(b:H=X*Y/18446744073709551616)(d:L=X*Y%18446744073709551616)(w:World):Calls prog 201 #[.int .u64 X,.int .u64 Y] w fun e a=>e=.returned (.tuple #[.int .u64 (H:Int),.int .u64 (L:Int)])/\a=w:=
 (Be X Y g h w).mono fun _ _ ⟨f,c⟩=>⟨by rw[f,b,d],c.symm⟩
theorem lE(X Y l c:Nat)(d:X<18446744073709551616)(e:Y<18446744073709551616)(b:l=(X+Y)%18446744073709551616)(a:c=(X+Y)/18446744073709551616)(w:World):(callFunc 202 #[.int .u64 (X:Int),.int .u64 (Y:Int),.int .u64 0]).run prog w=.ok (.value (.tuple #[.int .u64 (l:Int),.int .u64 (c:Int)])) w:=by
 rw[zJ X Y 0 (by omega) (by omega) (by omega) (by omega) (by omega) (by omega),b,a];congr 5<;>omega
theorem iy(a b c:Nat)(h:c=a+b)(d:c<18446744073709551616):IntKind.u64.wrap ((a:Int)+(b:Int))=(c:Int):=by
 rw[IntKind.wrap_u64];omega
theorem qk(A:Nat):(_root_.Go.splice (rowW 16 0).toList 0 (rowW 16 A).toList).toArray=rowW 16 A:=by
 unfold _root_.Go.splice;rw[List.take_zero,List.nil_append,List.drop_eq_nil_of_le (by simp),List.append_nil,Array.toArray_toList]
theorem Av(n m:Bool)(N M:Nat):sgn n N*sgn m M=sgn (n != m) (N*M):=by
 unfold sgn;cases n<;>cases m<;>simp[Int.neg_mul,Int.mul_neg]
theorem WI.qI{x y:WI}(a:x.ov=false)(b:y.ov=false):x.mul y=WI.of (sgn (x.ng != y.ng) (x.sz*y.sz)):=by
 unfold WI.mul;rw[WI.br a,WI.br b];simp only[Av]
theorem WI.mul_over(x y:WI)(h:x.ov=true∨y.ov=true):x.mul y=WI.over:=by
 unfold WI.mul;unfold WI.ov at h;cases hx:x.v<;>cases hy:y.v<;>simp_all
theorem pm(n:Bool)(A k:Nat)(h:wdn A (16+k)≠0):WI.of (sgn n A)=WI.over:=by
 have c:=fv A (16+k) h;refine WI.pq ?_;rw[dr];have a:∀m,m=16->W16<=2^(64*(m+k)):=fun m b=>by rw[jS m b];exact dL _ _ (by omega)
 have:=a 16 rfl;have:=mB;omega
theorem lQ(A:Nat)(c:LtW A 32)(h:∀m,m<16->wdn A (16+m)=0):A<W16:=by
 have b:∀j n,j<=16->n=32->A<2^(64*(n-j)):=by
  intro j;induction j with
  | zero=>intro n _ a;rw[<-a] at c;exact c
  | succ j d=>
   intro n i a;have:=d n (by omega) a;rw[show n-j=(n-(j+1))+1 by omega] at this;refine cg A _ this ?_;have:=h (16-(j+1)) (by omega);rwa [show 16+(16-(j+1))=n-(j+1) by omega] at this
 have e:∀m,m=16->A<2^(64*m)->A<W16:=fun m g h=>by rw[jS m g];exact h
 have f:∀n,n=32->A<W16:=fun n a=>e (n-16) (by omega) (b 16 n (by omega) a);exact f 32 rfl
theorem qm:rowW 32 0=#[.int .u64 0,.int .u64 0,.int .u64 0,.int .u64 0,.int .u64 0,.int .u64 0,.int .u64 0,.int .u64 0,.int .u64 0,.int .u64 0,.int .u64 0,.int .u64 0,.int .u64 0,.int .u64 0,.int .u64 0,.int .u64 0,
  .int .u64 0,.int .u64 0,.int .u64 0,.int .u64 0,.int .u64 0,.int .u64 0,.int .u64 0,.int .u64 0,.int .u64 0,.int .u64 0,.int .u64 0,.int .u64 0,.int .u64 0,.int .u64 0,.int .u64 0,.int .u64 0]:=by
 simp[rowW,Array.ofFn_succ,oK]
@[go_sem ↓] theorem Gg(w : World):(zeroValue 275).run prog w=.ok (.agg (rowW 32 0)) w:=by
  rw[qm];exact zeroValue275 w
theorem yc(x y:WI)(hx:x.ov=false)(hy:y.ov=false)(w:World):zR 153 #[.agg x.cells,.agg y.cells] w (.agg (x.mul y).cells):=by
 rw[WI.qI hx hy];obtain⟨A,I⟩:∃A,A=x.sz*y.sz:=⟨_,rfl⟩;rw[<-I];have b3:=Lh I
 have hA:LtW A 32:=by
  have h1:=x.bC;have h2:=y.bC
  have h3:∀m,m=16->LtW A (m+m):=fun m Q=>by
   unfold LtW;rw[show 64*(m+m)=64*m+64*m by omega,Nat.pow_add,I];exact Nat.mul_lt_mul'' (pQ h1 Q) (pQ h2 Q)
  exact h3 16 rfl
 have HA:=Lh hA;clear I hA;go_enter func153,ntmps153;go_wp2_with fail;refine(eT _ _ _ _ x.bC (.da ((((Blk.new _ _ _).alloc _).alloc _).alloc _))).mono ?_;rintro e w' ⟨rfl,rfl⟩;go_wp2_with fail;refine(eT _ _ _ _ y.bC (.da (((Blk.new' _ _ _ (by simp)).alloc _).alloc _))).mono ?_;rintro e w' ⟨rfl,rfl⟩;have b7:np x.sz<=16:=(bX _ _).2 (LtW.of16 x.bC);have b6:np y.sz<=16:=(bX _ _).2 (LtW.of16 y.bC);have O:Hid (y.sz<2^(64*np y.sz)):=kn _;go_wp2_with fail;go_loopw [29] (fun i wr=>∃k:Nat,k<=np x.sz/\i=.int .i64 k/\zB w wr/\Blk wr w.heap.size x.cells 153/\Blk wr (w.heap.size+1) y.cells 153/\Blk wr (w.heap.size+1+1) (cellsI false false 0) 153/\Blk wr (w.heap.size+1+1+1) (rowW 32 (x.sz%2^(64*k)*y.sz)) 275) (fun i _=>np x.sz-(intOf i).toNat)
 case atStart=>
  refine⟨0,by omega,rfl,ae,(((Blk.new _ _ _).alloc _).alloc _).alloc _,((Blk.new' _ _ _ (by simp)).alloc _).alloc _,(Blk.new' _ _ _ (by simp)).alloc _,?_⟩;rw[show x.sz%2^(64*0)*y.sz=0 by simp[Nat.mod_one]];exact Blk.new' _ _ _ (by simp)
 case round=>
  obtain⟨i,hi,rfl,G,p,f,g,a⟩:=hrel;obtain⟨J,rfl⟩:∃J:World,J=wr:=⟨_,rfl⟩;by_cases b0:i<np x.sz
  ·have a3:(i:Int)<np x.sz:=by omega
   have D:=Lh G;have F:=Lh p;have C:=Lh f;have q:=Lh g;have u:=Lh a;clear G p f g a;go_wp2_with fail;go_loopw [9,33] (fun c j wr=>∃k A P,k<=np y.sz/\j=.int .i64 (k:Nat)/\c=.int .u64 (P:Nat)/\P<18446744073709551616/\zB w wr/\Blk wr w.heap.size x.cells 153/\Blk wr (w.heap.size+1) y.cells 153/\Blk wr (w.heap.size+1+1) (cellsI false false 0) 153/\Blk wr (w.heap.size+1+1+1) (rowW 32 A) 275/\LtW A (i+np y.sz)/\Hid (A+P*2^(64*(i+k))=x.sz%2^(64*i)*y.sz+wdn x.sz i*(y.sz%2^(64*k))*2^(64*i))) (fun _ j _=>np y.sz-(intOf j).toNat)
   case atStart=>
    refine⟨0,_,0,by omega,rfl,rfl,by omega,D.out,F.out,C.out,q.out,u.out,vM _ _ _ _ O.out,?_⟩;exact Lh (by simp[Nat.mod_one])
   case round=>
    obtain⟨j,A,c,hj,rfl,rfl,hc,G,p,f,g,a,hA,d⟩:=hrel;by_cases b8:j<np y.sz
    ·have b5:(j:Int)<np y.sz:=by omega
     have T:i<16:=by omega
     have a5:j<16:=by omega
     have e0:wr.cell? ⟨w.heap.size,2+i,none⟩=some (.int .u64 ((wdn x.sz i:Nat):Int)):=p.cell (x.iJ i T);have e1:wr.cell? ⟨w.heap.size+1,2+j,none⟩=some (.int .u64 ((wdn y.sz j:Nat):Int)):=f.cell (y.iJ j a5);have e3:wr.cell? ⟨w.heap.size+1+1+1,i+j,none⟩=some (.int .u64 ((wdn A (i+j):Nat):Int)):=a.cell (aZ 32 A (i+j) (by omega));have f3:wr.frozen? ⟨w.heap.size+1+1+1,i+j,none⟩=false:=a.frozen _;have hX:=bB x.sz i;have hY:=bB y.sz j;have hW:=bB A (i+j);obtain⟨H,L,l1,c1,h1,v,c2,P,hH,hL,N,R,U,a0,s,t,K,Z,V,r,z,M⟩:=yb _ _ _ _ hX hY hW hc;have hinv:=Lh (vL _ A _ _ c v P i j d.out z);have b4:=iV A (i+j) v (i+np y.sz) M (by omega) hA;have b:=Lh (cp 32 A (i+j) v M);have a1:=fun w=>lE L (wdn A (i+j)) l1 c1 N hW R U w;have a2:=fun w=>lE l1 c v c2 t hc K Z w;have w1:=iy H c1 h1 a0 s;have l:=iy h1 c2 P V r;have HM:=fun w=>Lh (eU (wdn x.sz i) (wdn y.sz j) H L hX hY hH hL w);have D:=Lh G;have F:=Lh p;have C:=Lh f;have q:=Lh g;have u:=Lh a;clear G p f g a d hX hY hW hH hL N R U a0 s t K Z V z hc;have a9:(0:Int)<=(i:Int)+j:=by omega
     have S:(i:Int)+j<32:=by omega
     go_wp2_with fail;go_quiet ((go_at_call 201;exact Calls.quiet_of_same (HM _).out))
     go_wp2
     refine⟨⟨j+1,bZ A (i+j) v,P,by omega,by go_num,rfl,r,?_,?_,?_,?_,?_,b4,hinv⟩,by simp[intOf];omega⟩
     ·exact(below_drewN D.out _).setCell (by simp;omega) _
     ·exact(F.out:Blk (wr.drewN _) _ _ _).ac (by first|omega|(simp;done)|(simp;omega)|fail) _
     ·exact(C.out:Blk (wr.drewN _) _ _ _).ac (by first|omega|(simp;done)|(simp;omega)|fail) _
     ·exact(q.out:Blk (wr.drewN _) _ _ _).ac (by first|omega|(simp;done)|(simp;omega)|fail) _
     ·rw[<-b.out];exact(u.out:Blk (wr.drewN _) _ _ _).ab _ _
    ·have b2:j=np y.sz:=by omega
     subst b2;have ho:=vK _ A x.sz y.sz c i _ rfl O.out hA d.out;have b:=cp 32 A (i+np y.sz) c hc;rw[ho] at b;have W:=Lh b;have e3:wr.cell? ⟨w.heap.size+1+1+1,i+np y.sz,none⟩=some (.int .u64 ((wdn A (i+np y.sz):Nat):Int)):=a.cell (aZ 32 A (i+np y.sz) (by omega));have f3:wr.frozen? ⟨w.heap.size+1+1+1,i+np y.sz,none⟩=false:=a.frozen _;have D:=Lh G;have F:=Lh p;have C:=Lh f;have q:=Lh g;have u:=Lh a;clear G p f g a d ho b hc;have a9:(0:Int)<=(i:Int)+np y.sz:=by omega
     have S:(i:Int)+np y.sz<32:=by omega
     go_wp2
     refine⟨⟨i+1,by omega,by go_num,?_,?_,?_,?_,?_⟩,by simp[intOf];omega⟩
     ·exact D.out.setCell (by simp;omega) _
     ·exact F.out.ac (by first|omega|(simp;done)|(simp;omega)|fail) _
     ·exact C.out.ac (by first|omega|(simp;done)|(simp;omega)|fail) _
     ·exact q.out.ac (by first|omega|(simp;done)|(simp;omega)|fail) _
     ·rw[<-W.out];exact u.out.ab _ _
  ·have a8:i=np x.sz:=by omega
   subst a8;rw[Nat.mod_eq_of_lt (kn x.sz),<-b3.out] at a;have D:=Lh G;have F:=Lh p;have C:=Lh f;have q:=Lh g;have u:=Lh a;clear G p f g a;go_wp2_with fail;refine dv 2 (by kernel_rfl) (by kernel_rfl) ?_;simp only[List.take_succ_cons,List.take_zero,List.drop_succ_cons,List.drop_zero];(repeat still_step);(try refine wpStill_nil ?_);go_wp2_with (refine wpList_copy_splice rfl _ _ 279 279 rfl 53 underlying279 jG _ _ 16 16 16 32 rfl rfl J.heap.size 0 (rowW 16 0).toList 151 (by rw[Array.toArray_toList];exact(Blk.new J _ _).drew) (rowW 16 A).toList (by simp) (fun _=>⟨rfl,_,rfl,fun j v K=>?_⟩) (by simp) ?_ J.heap.size (J.alloc (.cells (rowW 16 0) 151)).drew (Below.refl _ _) (Nat.le_refl _) ?_)
   · have hj : j < 16 := by
       have:=(List.getElem?_eq_some_iff.1 K).1;simpa using this
     rw[Array.getElem?_toList,cL 16 A j hj] at K;rw[Addr.add_mid,<-K,Nat.zero_add];exact(Blk.cell ((u.out.alloc _).drew) (by rw[cL 32 A j (by omega)]))
   ·intro v K;exact(Array.all_eq_true_iff_forall_mem.1 (bN 16 A)) v (by simpa using K)
   intro l a4 o;have q4:Blk l J.heap.size (rowW 16 A) 151:=by have:=a4.out;rw[qk] at this;exact this
   have p:Blk l w.heap.size x.cells 153:=((F.out.alloc _).drew).below o F.out.lt;have f:Blk l (w.heap.size+1) y.cells 153:=((C.out.alloc _).drew).below o C.out.lt;have g:Blk l (w.heap.size+1+1) (cellsI false false 0) 153:=((q.out.alloc _).drew).below o q.out.lt;have a:Blk l (w.heap.size+1+1+1) (rowW 32 A) 275:=((u.out.alloc _).drew).below o u.out.lt;have b9:Hid (zB w l):=((D.out.alloc D.out.size _).drew).trans (o.mono D.out.size);have ns:J.heap.size<l.heap.size:=q4.lt;have n2:w.heap.size+1+1<l.heap.size:=g.lt;have F:=Lh p;have C:=Lh f;have q:=Lh g;have u:=Lh a;have Q4:=Lh q4;clear p f g a q4 o a4 D;go_wp2_with fail;go_loop [86] (fun i=>∃k:Nat,k<=16/\i=.int .i64 k/\Hid (∀m,m<k->wdn A (16+m)=0)) (fun i=>16-(intOf i).toNat)
   case atStart=>exact⟨0,by omega,rfl,Lh (fun m Q=>absurd Q (Nat.not_lt_zero m))⟩
   case round=>
    obtain⟨k,hk,rfl,hz⟩:=hrel;by_cases b0:k<16
    ·have a3:(k:Int)<16:=by omega
     have e3:l.cell? ⟨w.heap.size+1+1+1,16+k,none⟩=some (.int .u64 ((wdn A (16+k):Nat):Int)):=u.out.cell (aZ 32 A (16+k) (by omega));by_cases h0:wdn A (16+k)=0
     ·have a7:((wdn A (16+k):Int) != 0)=false:=by simp[h0]
      have b1:Hid (∀m,m<k+1->wdn A (16+m)=0):=fun m Q=>by
       rcases Nat.lt_succ_iff_lt_or_eq.1 Q with h|h
       ·exact hz.out m h
       ·rw[h];exact h0
      clear h0 hz;go_wp2
      go_round
      case rel=>exact⟨k+1,by omega,by go_num,b1⟩
      case measure=>simp[intOf]<;>omega
     ·have a7:((wdn A (16+k):Int) != 0)=true:=by simp;omega
      have E:=Lh (pm (x.ng != y.ng) A k h0);have p2:=q.out.put? 0 (cellsI false true 0) (by simp) (by simp);clear h0 hz;go_wp2_with fail;refine(dW _).mono ?_;rintro e w3 ⟨rfl,B⟩;have X:=B.size;(try simp at X);have a6:=bq3 B (w.heap.size);have p3:=(q.out.keep B).put? 0 (cellsI false true 0) (by simp) (by simp);have p4:=cP p3 (n:=18) (by simp);go_wp2
      exact ak 18 (cellsI false true 0) rfl rfl rfl underlying153 rfl aE (by go_simp) ⟨by rw[E.out];rfl,ae⟩
    ·have Y:k=16:=by omega
     subst Y;have hs:=Lh (lQ A HA.out hz.out);have e0:l.cell? ⟨w.heap.size,0,none⟩=some (.bool x.ng):=F.out.cell x.pN;have e1:l.cell? ⟨w.heap.size+1,0,none⟩=some (.bool y.ng):=C.out.cell y.pN;have e4:l.row? J.heap.size 0 16=some (rowW 16 A):=Q4.out.row?_all 16 (by simp);go_wp2_with fail;refine(fL _ _ hs.out _).mono ?_;rintro e w3 ⟨rfl,B⟩;have p3:=(q.out.keep B).put? 0 (WI.of (sgn (!x.ng==y.ng) A)).cells (by simp) (by simp);have p4:=cP p3 (n:=18) (by simp);go_wp2
     exact ak 18 (WI.of (sgn (!x.ng==y.ng) A)).cells rfl rfl rfl underlying153 rfl aE (by go_simp) ⟨by rw[show(!x.ng==y.ng)=(x.ng != y.ng) by cases x.ng<;>cases y.ng<;>rfl],ae⟩
theorem mul_over(x y:WI)(h:x.ov=true∨y.ov=true)(w:World):zR 153 #[.agg x.cells,.agg y.cells] w (.agg (x.mul y).cells):=by
 rw[WI.mul_over x y h];cases hx:x.ov with
 | true=>
  clear h;go_enter func153,ntmps153;go_wp2_with fail;refine(dW _).mono ?_;rintro e d ⟨rfl,b⟩;have a:=b.size;(try simp at a);have c:=bq3 b (w.heap.size);go_wp2
  exact ak 18 (cellsI false true 0) rfl rfl rfl underlying153 rfl aE (by go_simp) ⟨rfl,ae⟩
 | false=>
  have f:y.ov=true:=by rcases h with h|h<;>simp_all
  clear h;go_enter func153,ntmps153;go_wp2_with fail;refine(dW _).mono ?_;rintro e d ⟨rfl,b⟩;have a:=b.size;(try simp at a);have c:=bq3 b (w.heap.size);go_wp2
  exact ak 18 (cellsI false true 0) rfl rfl rfl underlying153 rfl aE (by go_simp) ⟨rfl,ae⟩
theorem cN(x y:WI)(w:World):zR 153 #[.agg x.cells,.agg y.cells] w (.agg (x.mul y).cells):=by
 cases hx:x.ov with
 | true=>exact mul_over x y (.inl hx) w
 | false=>
  cases hy:y.ov with
  | true=>exact mul_over x y (.inr hy) w
  | false=>exact yc x y hx hy w
end Go.Proofs.YtechbdnhalmobaaGreatDoor
namespace Go.Proofs.YtechbdnhalmobaaGreatDoor
open Go.RowKit
theorem WI.sign_eq(x:WI):x.sign=if x.ov=true∨x.sz=0 then 0 else if x.ng=true then -1 else 1:=by
 unfold WI.sign WI.ov WI.sz WI.ng;cases x.v with
 | none=>simp
 | some z=>
  simp;rcases Int.lt_trichotomy z 0 with h|h|h
  ·rw[Int.sign_eq_neg_one_of_neg h,if_neg (by omega),if_pos h]
  ·subst h;simp
  ·rw[Int.sign_eq_one_of_pos h,if_neg (by omega),if_neg (by omega)]
theorem dX(x:WI)(w:World):zR 77 #[.agg x.cells] w (.int .i64 x.sign):=by
 have b:=Lh x.sign_eq;have HQ:=Lh (eD x.sz x.bC);cases ho:x.ov with
 | true=>
  have e:Hid (x.sign=0):=by rw[ho] at b;have:=b.out;simp at this;exact this
  go_enter func77,ntmps77;go_wp2
  go_ret;exact⟨cq e.out.symm,ae⟩
 | false=>
  by_cases a:x.sz=0
  ·have e:Hid (x.sign=0):=by have:=b.out;simp[a] at this;exact this
   have d:eqW x.sz 0=true:=by rw[HQ.out];simp[a]
   have c:=Lh a;clear a;go_enter func77,ntmps77;go_wp2
   go_ret;exact⟨cq e.out.symm,ae⟩
  ·have d:eqW x.sz 0=false:=by rw[HQ.out];simp[a]
   cases hn:x.ng with
   | true=>
    have e:Hid (x.sign=-1):=by have:=b.out;simp[a,ho,hn] at this;exact this
    have c:=Lh a;clear a;go_enter func77,ntmps77;go_wp2
    go_ret;exact⟨cq e.out.symm,ae⟩
   | false=>
    have e:Hid (x.sign=1):=by have:=b.out;simp[a,ho,hn] at this;exact this
    have c:=Lh a;clear a;go_enter func77,ntmps77;go_wp2
    go_ret;exact⟨cq e.out.symm,ae⟩
theorem gb(x:WI)(w:World):zR 319 #[.agg x.cells] w (.bool x.ov):=by
 go_enter func319,ntmps319;go_wp2
 go_ret;exact⟨rfl,ae⟩
end Go.Proofs.YtechbdnhalmobaaGreatDoor
