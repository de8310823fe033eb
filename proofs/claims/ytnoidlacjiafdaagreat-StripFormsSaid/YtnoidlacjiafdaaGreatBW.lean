/- The walks of package wide's inner functions on sizes: parts, bits, cmp, add, sub. Each returns what its number says; the world keeps all that was there. The walks of math/bits' functions that package wide calls: Mul64, Len64. After the library's own proofs of these. Rules for rows of package wide at this program; the walks of bits, tooGreat, made, Of. The walks of package wide's Of, Neg, Add, Sub. The walk of package wide's Mul. The walks of package wide's Sign, Over, Bits, Cmp, Int64. -/
import Derived.Test.YtnoidlacjiafdaaGreatBA
import Derived.WalkKit
import Derived.WalkSpells
import Derived.WalkLawsBesides
import Derived.BigQuiet
import Derived.Deep.QuietTactic
import Derived.Deep.RegionHeld3
import Derived.Laws.Externs
import Derived.Shelf.Spec.BitsCarry
import Derived.Lib.Mul64
import Derived.Test.YtnoidlacjiafdaaGreatLn
import Derived.Laws.Bits64b
import Derived.StillTailTactics
import Derived.Laws.CopyOwn
import Derived.Deep.RegionLaw
set_option maxRecDepth 100000
set_option maxHeartbeats 16000000
namespace Go.Proofs.YtnoidlacjiafdaaGreat
set_option linter.unusedSimpArgs false
set_option linter.unusedVariables false
open Go.RowKit

theorem zJ (x y c:Int) (hx:0≤x) (hy:0≤y) (hx':x<18446744073709551616) (hy':y<18446744073709551616) (hc0:0≤c) (hc:c≤1) (w:World):(callFunc 102 #[.int .u64 x,.int .u64 y,.int .u64 c]).run Tryz.prog w =
  .ok (.value (.tuple #[.int .u64 ((x+y+c)%18446744073709551616),.int .u64 ((x+y+c)/18446744073709551616)])) w:=by
 obtain⟨x,rfl⟩:=Int.eq_ofNat_of_zero_le hx;obtain⟨y,rfl⟩:=Int.eq_ofNat_of_zero_le hy;obtain⟨c,rfl⟩:=Int.eq_ofNat_of_zero_le hc0;rw[run_callFunc_extern Tryz.func102 (by kernel_rfl) (by kernel_rfl) (by kernel_rfl) (e:=add64Entry) (by kernel_rfl),run_add64 x y c (by omega) (by omega) (by omega) (by omega)];rfl
theorem zI (N M i:Nat) (w:World):(callFunc 102 #[.int .u64 (wd N i),.int .u64 (wd M i),.int .u64 (gH N M i)]).run Tryz.prog w =
  .ok (.value (.tuple #[.int .u64 (wd (N+M) i),.int .u64 (gH N M (i+1))])) w:=by
 rw[zJ _ _ _ (fu _ _) (fu _ _) (tN _ _) (tN _ _) (rC _ _ _) (BV _ _ _),zE,wH]
theorem CH (x y b:Int) (hx:0≤x) (hy:0≤y) (hy':y<18446744073709551616) (hb0:0≤b) (hb:b≤1) (w:World):(callFunc 139 #[.int .u64 x,.int .u64 y,.int .u64 b]).run Tryz.prog w =
  .ok (.value (.tuple #[.int .u64 ((x-y-b)%18446744073709551616),.int .u64 (if x<y+b then 1 else 0)])) w:=by
 obtain⟨x,rfl⟩:=Int.eq_ofNat_of_zero_le hx;obtain⟨y,rfl⟩:=Int.eq_ofNat_of_zero_le hy;obtain⟨b,rfl⟩:=Int.eq_ofNat_of_zero_le hb0;have e1:(((x+18446744073709551616-y-b)%18446744073709551616:Nat):Int)=((x:Int)-y-b)%18446744073709551616:=by omega
 have e2:((if x<y+b then 1 else 0:Nat):Int)=if (x:Int)<y+b then 1 else 0:=by split <;> split <;> omega
 rw[← e1,← e2];rw[run_callFunc_extern Tryz.func139 (by kernel_rfl) (by kernel_rfl) (by kernel_rfl) (e:=sub64Entry) (by kernel_rfl),run_sub64 x y b (by omega)];rfl
theorem xg (N M i:Nat) (hle:M≤N) (w:World):(callFunc 139 #[.int .u64 (wd N i),.int .u64 (wd M i),.int .u64 (jq N M i)]).run Tryz.prog w =
  .ok (.value (.tuple #[.int .u64 (wd (N-M) i),.int .u64 (jq N M (i+1))])) w:=by
 rw[CH _ _ _ (fu _ _) (fu _ _) (tN _ _) (rD _ _ _) (BW _ _ _),xf _ _ _ hle,wJ]
theorem aO:(Tryz.prog.info? 45).map (·.size)=some 16:=by kernel_rfl
theorem aE:(Tryz.prog.info? 47).map (·.size)=some 18:=by kernel_rfl
theorem eT (b o N:Nat) (w:World) (hN:N<W16) (hx:dm w b o N) :
  Calls Tryz.prog 100 #[.pointer (some ⟨b,o,none⟩)] w fun e w'=>e = .returned (.int .i64 (np N))∧w=w':=by
 have HN:=Lh hN;clear hN;go_enter Tryz.func100,Tryz.ntmps100;go_wp2
 go_loop [3] (fun i=>∃ k:Nat,k≤16∧i = .int .i64 k∧LtW N k) (fun i=>(intOf i).toNat)
 case atStart=>exact⟨16,by omega,rfl,.of16 HN.out⟩
 case round =>
  obtain⟨k,hk,rfl,hlt⟩:=hrel;rcases k with _|k
  ·have e:np N=0:=Nat.le_zero.1 ((bX N 0).2 hlt);have E:=Lh e;clear e;go_wp2
   go_ret;exact⟨cq (by rw[E.out];rfl),rfl⟩
  ·have hc:w.cell? ⟨b,o+k,none⟩=some (.int .u64 (wd N k)):=(hx k (by omega)).1;have h1:(0:Int)<(k:Int)+1:=by omega
   by_cases hz:wdn N k=0
   ·have hz':(wd N k==0)=true:=by simp[wd,hz]
    have hn:=cg N k hlt hz;have HN':LtW N k:=hn;clear hz hn;go_wp2
    go_round
    case rel=>exact⟨k,by omega,by go_num,HN'⟩
    case measure=>simp[intOf] <;> omega
   ·have hz':(wd N k==0)=false:=by simp[wd];omega
    have e:np N=k+1:=nQ N (k+1) hlt (.inr (fv N k hz));have E:=Lh e;clear hz e;go_wp2
    go_ret;exact⟨cq (by rw[E.out];simp),rfl⟩
theorem ru (N M k:Nat) (h:Hid (N/2^(64*(k+1))=M/2^(64*(k+1)))) (h1:wd N k<wd M k):eE N M = -1:=by
 unfold eE;rw[if_pos (my N M k h.out h1)]
theorem rv (N M k:Nat) (h:Hid (N/2^(64*(k+1))=M/2^(64*(k+1)))) (h1:wd M k<wd N k):eE N M=1:=by
 have:=my M N k h.out.symm h1;unfold eE;rw[if_neg (by omega),if_pos this]
theorem wC (N:Nat):eE N N=0:=by unfold eE;simp
theorem kD (b o b' o' N M:Nat) (w:World) (hN:N<W16) (hM:M<W16) (hx:dm w b o N) (hy:dm w b' o' M) :
  Calls Tryz.prog 98 #[.pointer (some ⟨b,o,none⟩),.pointer (some ⟨b',o',none⟩)] w fun e w'=>e = .returned (.int .i64 (eE N M))∧Below w.heap.size w w':=by
 have HN:=Lh hN;have HM:=Lh hM;clear hN hM;go_enter Tryz.func98,Tryz.ntmps98;go_wp2
 go_loopw [5] (fun i wr=>∃ k:Int,-1≤k∧k≤15∧i = .int .i64 k∧Hid (N/2^(64*(k+1).toNat)=M/2^(64*(k+1).toNat))∧Below w.heap.size w wr) (fun i _=>(intOf i+1).toNat)
 case atStart =>
  refine⟨15,by omega,by omega,rfl,?_,Below.refl _ _⟩;exact(LtW.div (LtW.of_eq (by decide) HN.out)).trans (LtW.div (LtW.of_eq (by decide) HM.out)).symm
 case round =>
  obtain⟨k,hk0,hk,rfl,heq,hb⟩:=hrel;by_cases h0:0≤k
  ·obtain⟨k,rfl⟩:=Int.eq_ofNat_of_zero_le h0;have hk16:k<16:=by omega
   have c1:wr.cell? ⟨b,o+k,none⟩=some (.int .u64 (wd N k)):=(hx.below hb k hk16).1;have c2:wr.cell? ⟨b',o'+k,none⟩=some (.int .u64 (wd M k)):=(hy.below hb k hk16).1;have hlt16:(k:Int)<16:=by omega
   have heq':Hid (N/2^(64*(k+1))=M/2^(64*(k+1))):=by
    have:=heq.out;rw[show((k:Int)+1).toNat=k+1 by omega] at this;exact this
   have HB:=Lh hb;clear heq hb;by_cases h1:wd N k<wd M k
   ·go_wp2
    go_quiet (fail)
    go_wp2
    go_ret;exact⟨cq (ru N M k heq' h1).symm,by first|exact HB.out|exact below_drewN HB.out _|exact below_drewN (below_drewN HB.out _) _⟩
   ·by_cases h2:wd M k<wd N k
    ·have h1':decide (wd N k<wd M k)=false:=decide_eq_false h1;go_wp2
     go_quiet (fail)
     go_wp2
     go_quiet (fail)
     go_wp2
     go_ret;exact⟨cq (rv N M k heq' h2).symm,by first|exact HB.out|exact below_drewN HB.out _|exact below_drewN (below_drewN HB.out _) _⟩
    ·have h1':decide (wd N k<wd M k)=false:=decide_eq_false h1;have h2':decide (wd M k<wd N k)=false:=decide_eq_false h2;have hs:=uV N M k heq'.out h1 h2;have HS:=Lh hs;clear hs;go_wp2
     go_quiet (fail)
     go_wp2
     go_quiet (fail)
     go_wp2
     go_roundw
     case rel =>
      refine⟨(k:Int)-1,by omega,by omega,rfl,?_,by first|exact HB.out|exact below_drewN HB.out _|exact below_drewN (below_drewN HB.out _) _⟩;have:=HS.out;rw[show((k:Int)-1+1).toNat=k by omega];exact this
     case measure=>simp[intOf] <;> omega
  ·have:k = -1:=by omega
   subst this
   have he:eE N M=0:=by
    have:=heq.out;rw[show((-1:Int)+1).toNat=0 by omega] at this;simp at this;subst this;exact wC N
   have HE:=Lh he;have HB:=Lh hb;clear he hb heq;go_wp2
   go_ret;exact⟨cq HE.out.symm,by first|exact HB.out|exact below_drewN HB.out _|exact below_drewN (below_drewN HB.out _) _⟩
theorem zH (b o b' o':Nat) (N M:Nat) (w:World) (hx:dm w b o N) (hy:dm w b' o' M) :
  Calls Tryz.prog 96 #[.pointer (some ⟨b,o,none⟩),.pointer (some ⟨b',o',none⟩)] w fun e w'=>e = .returned (.tuple #[.agg (rowW 16 (N+M)),.int .u64 (gH N M 16)])∧Below w.heap.size w w':=by
 go_enter Tryz.func96,Tryz.ntmps96;go_wp2
 go_loopw [7,9] (fun c i wr=>∃ k:Nat,k≤16∧i = .int .i64 k∧c = .int .u64 (gH N M k)∧Below w.heap.size w wr∧Blk wr (w.heap.size+1) (rowW 16 ((N+M)%2^(64*k))) 45∧Blk wr w.heap.size (rowW 16 0) 45) (fun _ i _=>16-(intOf i).toNat)
 case atStart =>
  refine⟨0,by omega,rfl,by rw[wG],((Below.refl _ _).alloc (Nat.le_refl _) _).alloc (by simp) _,?_,?_⟩
  ·rw[show(N+M)%2^(64*0)=0 by simp[Nat.mod_one],cG];exact Blk.new' _ _ _ (by simp)
  ·rw[cG];exact(Blk.new _ _ _).alloc _
 case round =>
  obtain⟨k,hk,rfl,rfl,hb,h1,h0⟩:=hrel;by_cases hlt:k<16
  ·have c1:wr.cell? ⟨b,o+k,none⟩=some (.int .u64 (wd N k)):=(hx.below hb k hlt).1;have c2:wr.cell? ⟨b',o'+k,none⟩=some (.int .u64 (wd M k)):=(hy.below hb k hlt).1;have c3:wr.cell? ⟨w.heap.size+1,k,none⟩=some (.int .u64 (wd ((N+M)%2^(64*k)) k)):=h1.cell (cL _ _ _ hlt);have c4:wr.frozen? ⟨w.heap.size+1,k,none⟩=false:=h1.frozen k;have hk1:(k:Int)<16:=by omega
   have hk0:(0:Int)≤k:=by omega
   have hadd:=fun w=>zI N M k w;have hn1:w.heap.size+1≠b:=by have:=hx.lt;omega
   have hn2:w.heap.size+1≠b':=by have:=hy.lt;omega
   have HB:=Lh hb;have HH1:=Lh h1;have HH0:=Lh h0;clear hb h1 h0;go_wp2
   go_region_held3 (fun w'=>w'.cell? ⟨b,o+k,none⟩=some (.int .u64 (wd N k))∧w'.cell? ⟨b',o'+k,none⟩=some (.int .u64 (wd M k))) (go_keep) (fail)
   go_wp2
   refine⟨⟨k+1,by omega,by go_num,rfl,?_,?_,?_⟩,by simp[intOf];omega⟩
   ·exact HB.out.drew.setCell (by simp) _
   ·rw[← gR];exact HH1.out.drew.ab _ _
   ·exact HH0.out.drew.ac (by simp) _
  ·have hk16:k=16:=by omega
   subst hk16;rw[mi] at h1;have HB:=Lh hb;have HH:=Lh (Blk.ee h0 (rowW 16 (N+M)));clear hb;go_wp2_with (first|(refine wpList_load_row rfl 45 _ rfl _ rfl 45 _ (0,0) _ h1 Tryz.underlying45 rfl (by rw[aD];exact aO) ?_)|(refine wpList_store_row rfl 45 _ _ rfl _ _ rfl rfl 45 _ h0 (by rw[aD];exact aO) (by rw[aD,aD]) (bN _ _) ?_))
   exact bodyPost_ret (v := .tuple #[.agg (rowW 16 (N+M)),.int .u64 (gH N M 16)]) (by exact cM (p:=4) (u:=5) (ty:=45) rfl _ _ _ _ _ _ rfl HH.out Tryz.underlying45 rfl (by rw[aD];exact aO)) rfl ⟨rfl,cJ HB.out (by omega) _⟩
theorem CG (b o b' o':Nat) (N M:Nat) (hle:M≤N) (w:World) (hx:dm w b o N) (hy:dm w b' o' M) :
  Calls Tryz.prog 99 #[.pointer (some ⟨b,o,none⟩),.pointer (some ⟨b',o',none⟩)] w fun e w'=>e = .returned (.agg (rowW 16 (N-M)))∧Below w.heap.size w w':=by
 go_enter Tryz.func99,Tryz.ntmps99;go_wp2
 go_loopw [6,8] (fun c i wr=>∃ k:Nat,k≤16∧i = .int .i64 k∧c = .int .u64 (jq N M k)∧Below w.heap.size w wr∧Blk wr (w.heap.size+1) (rowW 16 ((N-M)%2^(64*k))) 45∧Blk wr w.heap.size (rowW 16 0) 45) (fun _ i _=>16-(intOf i).toNat)
 case atStart =>
  refine⟨0,by omega,rfl,by rw[wI],((Below.refl _ _).alloc (Nat.le_refl _) _).alloc (by simp) _,?_,?_⟩
  ·rw[show(N-M)%2^(64*0)=0 by simp[Nat.mod_one],cG];exact Blk.new' _ _ _ (by simp)
  ·rw[cG];exact(Blk.new _ _ _).alloc _
 case round =>
  obtain⟨k,hk,rfl,rfl,hb,h1,h0⟩:=hrel;by_cases hlt:k<16
  ·have c1:wr.cell? ⟨b,o+k,none⟩=some (.int .u64 (wd N k)):=(hx.below hb k hlt).1;have c2:wr.cell? ⟨b',o'+k,none⟩=some (.int .u64 (wd M k)):=(hy.below hb k hlt).1;have c3:wr.cell? ⟨w.heap.size+1,k,none⟩=some (.int .u64 (wd ((N-M)%2^(64*k)) k)):=h1.cell (cL _ _ _ hlt);have c4:wr.frozen? ⟨w.heap.size+1,k,none⟩=false:=h1.frozen k;have hk1:(k:Int)<16:=by omega
   have hk0:(0:Int)≤k:=by omega
   have hadd:=fun w=>xg N M k hle w;have hn1:w.heap.size+1≠b:=by have:=hx.lt;omega
   have hn2:w.heap.size+1≠b':=by have:=hy.lt;omega
   have HB:=Lh hb;have HH1:=Lh h1;have HH0:=Lh h0;clear hb h1 h0;go_wp2
   go_region_held3 (fun w'=>w'.cell? ⟨b,o+k,none⟩=some (.int .u64 (wd N k))∧w'.cell? ⟨b',o'+k,none⟩=some (.int .u64 (wd M k))) (go_keep) (fail)
   go_wp2
   refine⟨⟨k+1,by omega,by go_num,rfl,?_,?_,?_⟩,by simp[intOf];omega⟩
   ·exact HB.out.drew.setCell (by simp) _
   ·rw[← gR];exact HH1.out.drew.ab _ _
   ·exact HH0.out.drew.ac (by simp) _
  ·have hk16:k=16:=by omega
   subst hk16;rw[mi] at h1;have HB:=Lh hb;have HH:=Lh (Blk.ee h0 (rowW 16 (N-M)));clear hb;go_wp2_with (first|(refine wpList_load_row rfl 45 _ rfl _ rfl 45 _ (0,0) _ h1 Tryz.underlying45 rfl (by rw[aD];exact aO) ?_)|(refine wpList_store_row rfl 45 _ _ rfl _ _ rfl rfl 45 _ h0 (by rw[aD];exact aO) (by rw[aD,aD]) (bN _ _) ?_))
   exact bodyPost_ret (v := .agg (rowW 16 (N-M))) (by exact ke (p:=4) (ty:=45) rfl _ _ _ _ _ _ rfl HH.out Tryz.underlying45 rfl (by rw[aD];exact aO)) rfl ⟨rfl,cJ HB.out (by omega) _⟩
end Go.Proofs.YtnoidlacjiafdaaGreat
namespace Go.Proofs.YtnoidlacjiafdaaGreat
open Go.RowKit Go.Lib

namespace Mu
theorem maskN (a:Nat) (ha:a<18446744073709551616):bits .and .u64 (a:Int) 4294967295=((a%4294967296:Nat):Int):=by
 have h:=bits_and_u64_nat a 4294967295 ha (by omega);have e:a &&& 4294967295=a%4294967296:=Nat.and_two_pow_sub_one_eq_mod a 32;rw[e] at h;exact h
theorem divN (a:Nat):(a:Int)/4294967296=((a/4294967296:Nat):Int):=by omega
theorem mulN (a b:Nat):(a:Int)*(b:Int)=((a*b:Nat):Int):=(Int.natCast_mul a b).symm
theorem addN (a b:Nat):(a:Int)+(b:Int)=((a+b:Nat):Int):=(Int.natCast_add a b).symm
theorem wrapN (a:Nat) (ha:a<18446744073709551616):IntKind.u64.wrap (a:Int)=(a:Int):=by rw [IntKind.wrap_u64];omega
theorem wrapM (a:Nat):IntKind.u64.wrap (a:Int)=((a%18446744073709551616:Nat):Int):=by rw [IntKind.wrap_u64];omega
end Mu

theorem Be (x y:Nat) (hx:x<18446744073709551616) (hy:y<18446744073709551616) (w:World) :
  Calls Tryz.prog 101 #[.int .u64 x,.int .u64 y] w fun e w'=>e = .returned (.tuple #[.int .u64 ((x*y/18446744073709551616:Nat):Int),.int .u64 ((x*y%18446744073709551616:Nat):Int)])∧w=w':=by
 obtain⟨bd,bt,bw,hhi⟩:=Lib.mul64_hi x y hx hy;have ba:=Lib.half_mul_le (a:=x/4294967296) (b:=y/4294967296) (by omega) (by omega);have bb:=Lib.half_mul_le (a:=x/4294967296) (b:=y%4294967296) (by omega) (by omega);have bc:=Lib.half_mul_le (a:=x%4294967296) (b:=y/4294967296) (by omega) (by omega);have ba':x/4294967296*(y/4294967296)<18446744073709551616:=by omega
 have bb':x/4294967296*(y%4294967296)<18446744073709551616:=by omega
 have bc':x%4294967296*(y/4294967296)<18446744073709551616:=by omega
 have bh1:x/4294967296*(y/4294967296)+(x/4294967296*(y%4294967296)+x%4294967296*(y%4294967296)/4294967296)/4294967296<18446744073709551616:=by omega
 have bh:x/4294967296*(y/4294967296)+(x/4294967296*(y%4294967296)+x%4294967296*(y%4294967296)/4294967296)/4294967296+((x/4294967296*(y%4294967296)+x%4294967296*(y%4294967296)/4294967296)%4294967296+x%4294967296*(y/4294967296))/4294967296<18446744073709551616:=by omega
 go_enter Tryz.func101,Tryz.ntmps101;go_wp2
 simp only[Mu.maskN x hx,Mu.maskN y hy,Mu.divN,Mu.mulN,Mu.addN,Mu.wrapN _ bd,Mu.wrapN _ bb',Mu.wrapN _ bt,Mu.maskN _ bt,Mu.wrapN _ bc',Mu.wrapN _ bw,Mu.wrapN _ ba',Mu.wrapN _ bh1,Mu.wrapN _ bh,Mu.wrapM (x*y)];rw[hhi];go_ret2
 exact⟨rfl,rfl⟩
end Go.Proofs.YtnoidlacjiafdaaGreat
namespace Go.Proofs.YtnoidlacjiafdaaGreat
open Go.RowKit

/-! ### Rules -/
theorem jG:(Tryz.prog.info? 43).map (·.size)=some 1:=by kernel_rfl
@[go_sem] theorem BG (w : World) (N M : Nat) : (Op.equalIn 10000 45 (.agg (rowW 16 N)) (.agg (rowW 16 M))).run Tryz.prog w = .ok (eqW N M) w :=
  kJ 9998 45 43 16 N M w Tryz.underlying45 Tryz.underlying43 jG
theorem eF:cellsI false false 0=#[.bool false,.bool false,.int .u64 0,.int .u64 0,.int .u64 0,.int .u64 0,.int .u64 0,.int .u64 0,.int .u64 0,.int .u64 0,.int .u64 0,.int .u64 0,.int .u64 0,.int .u64 0,.int .u64 0,.int .u64 0,.int .u64 0,.int .u64 0]:=by
 rw[cellsI,cG];rfl
@[go_sem ↓] theorem lG (w : World) : (zeroValue 47).run Tryz.prog w = .ok (.agg (cellsI false false 0)) w := by
  rw[eF];exact Tryz.zeroValue47 w
@[go_sem ↓] theorem Ev (w : World) : (zeroValue 45).run Tryz.prog w = .ok (.agg (rowW 16 0)) w := by
  rw[cG];exact Tryz.zeroValue45 w
theorem BZ (b o:Nat) (w:World) (hN:0<W16) (hx:dm w b o 0) :
  Calls Tryz.prog 106 #[.pointer (some ⟨b,o,none⟩)] w fun e w'=>e = .returned (.int .i64 (bl 0))∧w=w':=by
 have HN:=Lh hN;clear hN;go_enter Tryz.func106,Tryz.ntmps106;go_wp2_with (go_at_call 100;refine(eT _ _ _ _ HN.out hx).mono ?_;rintro e w' ⟨rfl,rfl⟩;rw[show np 0=0 from rfl])
 go_ret;exact⟨rfl,rfl⟩
theorem eH (b o N:Nat) (w:World) (hN:N<W16) (hx:dm w b o N) :
  Calls Tryz.prog 106 #[.pointer (some ⟨b,o,none⟩)] w fun e w'=>e = .returned (.int .i64 (bl N))∧w=w':=by
 have HN:=Lh hN;clear hN;by_cases h0:N=0
 ·subst h0;exact BZ b o w HN.out hx
 ·obtain⟨n,hn⟩:∃ n,np N=n+1:=⟨np N-1,by have:np N≠0:=fun h=>h0 ((kl N).1 h);omega⟩;have hlt:N<2^(64*(n+1)):=by rw[← hn];exact kn N
  have hw:wdn N n≠0:=by
   intro h;have:=(bX N n).2 (cg N n hlt h);omega
  have hn16:n<16:=by have:=(bX N 16).2 (LtW.of16 HN.out);omega
  have hbl:=En N n hlt hw;have hc:w.cell? ⟨b,o+n,none⟩=some (.int .u64 (wd N n)):=(hx n hn16).1;have hbs:bl (wdn N n)≤64:=(cE _ _).2 (bB N n);have h16:(n:Int)<16:=by omega
  have hne:((n:Int)+1==0)=false:=by simp;omega
  have hbs':(bl (wd N n).toNat:Int)≤64:=by rw[show(wd N n).toNat=wdn N n by unfold wd;omega];omega
  have HB:=Lh hbl;have HW:=Lh hw;have HL:=Lh hlt;have HNP:=Lh hn;clear hbl hw hlt hn hbs h0;go_enter Tryz.func106,Tryz.ntmps106;go_wp2_with (first|(go_at_call 100;refine(eT _ _ _ _ HN.out hx).mono ?_;rintro e w' ⟨rfl,rfl⟩;rw[HNP.out,Int.natCast_succ])|(go_at_call 140;refine(ul _ _ (fu _ _) (tN _ _)).mono ?_;rintro e w' ⟨rfl,rfl⟩))
  go_ret;exact⟨cq (by rw[HB.out];simp[wd]),rfl⟩
theorem dW (w:World) :
  Calls Tryz.prog 95 #[] w fun e w'=>e = .returned (.agg (cellsI false true 0))∧Below w.heap.size w w':=by
 go_enter Tryz.func95,Tryz.ntmps95;go_wp2
 exact ak 18 (cellsI false true 0) rfl rfl rfl Tryz.underlying47 rfl aE (by go_simp) ⟨rfl,(Below.refl _ _).alloc (Nat.le_refl _) _⟩
theorem fL (n:Bool) (N:Nat) (hN:N<W16) (w:World) :
  Calls Tryz.prog 97 #[.bool n,.agg (rowW 16 N)] w fun e w'=>e = .returned (.agg (WI.of (sgn n N)).cells)∧Below w.heap.size w w':=by
 have HN:=Lh hN;clear hN;by_cases hb:bl N≤1023
 ·have E:=Lh (WI.pp (n:=n) hb);have hle:(bl N:Int)≤1023:=by omega
  cases n with
  | false =>
   go_enter Tryz.func97,Tryz.ntmps97;go_wp2_with (first|(go_at_call 106;refine(eH _ _ _ _ HN.out (.bT (Blk.new _ _ _ |>.alloc _))).mono ?_;rintro e w' ⟨rfl,rfl⟩))
   refine dv 8 (by kernel_rfl) (by kernel_rfl) ?_;simp only[List.take_succ_cons,List.take_zero,List.drop_succ_cons,List.drop_zero];repeat still_step
   try refine wpStill_nil ?_
   go_wp2
   exact ak 18 (cellsI false false N) rfl rfl rfl Tryz.underlying47 rfl aE (by go_simp) ⟨by rw[E.out];rfl,(((Below.refl _ _).alloc (Nat.le_refl _) _).alloc (by simp) _).drew⟩
  | true =>
   have hq:=eD N HN.out;have HQ:=Lh hq;clear hq;by_cases h0:N=0
   ·have hq:eqW N 0=true:=by rw[HQ.out];simp[h0]
    have H0:=Lh h0;clear h0;go_enter Tryz.func97,Tryz.ntmps97;go_wp2_with (first|(go_at_call 106;refine(eH _ _ _ _ HN.out (.bT (Blk.new _ _ _ |>.alloc _))).mono ?_;rintro e w' ⟨rfl,rfl⟩))
    refine dv 8 (by kernel_rfl) (by kernel_rfl) ?_;simp only[List.take_succ_cons,List.take_zero,List.drop_succ_cons,List.drop_zero];repeat still_step
    try refine wpStill_nil ?_
    go_wp2
    exact ak 18 (cellsI false false N) rfl rfl rfl Tryz.underlying47 rfl aE (by go_simp) ⟨by rw[E.out,H0.out];rfl,(((Below.refl _ _).alloc (Nat.le_refl _) _).alloc (by simp) _).drew⟩
   ·have hq:eqW N 0=false:=by rw[HQ.out];simp[h0]
    have H0:=Lh h0;clear h0;go_enter Tryz.func97,Tryz.ntmps97;go_wp2_with (first|(go_at_call 106;refine(eH _ _ _ _ HN.out (.bT (Blk.new _ _ _ |>.alloc _))).mono ?_;rintro e w' ⟨rfl,rfl⟩))
    refine dv 8 (by kernel_rfl) (by kernel_rfl) ?_;simp only[List.take_succ_cons,List.take_zero,List.drop_succ_cons,List.drop_zero];repeat still_step
    try refine wpStill_nil ?_
    go_wp2
    exact ak 18 (cellsI true false N) rfl rfl rfl Tryz.underlying47 rfl aE (by go_simp) ⟨by rw[E.out];simp[H0.out],(((Below.refl _ _).alloc (Nat.le_refl _) _).alloc (by simp) _).drew⟩
 ·have E:=Lh (WI.qD (n:=n) (N:=N) (by omega));have hle:(1023:Int)<bl N:=by omega
  go_enter Tryz.func97,Tryz.ntmps97;go_wp2_with (first|(go_at_call 106;refine(eH _ _ _ _ HN.out (.bT (Blk.new _ _ _ |>.alloc _))).mono ?_;rintro e w' ⟨rfl,rfl⟩)|(go_at_call 95;refine(dW _).mono ?_;rintro e w1 ⟨rfl,hb1⟩;have z_w1:=hb1.size;(try simp at z_w1);have Kw1aa:=bq hb1 (w.heap.size);have Kw1ab:=bq hb1 (w.heap.size+1)))
  exact ak 18 (cellsI false true 0) rfl rfl rfl Tryz.underlying47 rfl aE (by go_simp) ⟨by rw[E.out],ae⟩
end Go.Proofs.YtnoidlacjiafdaaGreat
namespace Go.Proofs.YtnoidlacjiafdaaGreat
open Go.RowKit

theorem WI.add_over (x y:WI) (h:x.ov=true∨y.ov=true):x.add y=WI.over:=by
 unfold WI.add;unfold WI.ov at h;cases hx:x.v <;> cases hy:y.v <;> simp_all
theorem WI.br {x:WI} (h:x.ov=false):x.v=some (sgn x.ng x.sz):=by
 unfold WI.ov at h;unfold WI.ng WI.sz sgn;cases hx:x.v with
 | none=>rw[hx] at h;cases h
 | some z=>simp;by_cases hz:z<0 <;> simp[hz] <;> omega
theorem WI.ju {x y:WI} (hx:x.ov=false) (hy:y.ov=false):x.add y=WI.of (sgn x.ng x.sz+sgn y.ng y.sz):=by
 unfold WI.add;rw[WI.br hx,WI.br hy]
theorem iU (n:Bool) (N M:Nat):sgn n N+sgn n M=sgn n (N+M):=by unfold sgn;cases n <;> simp <;> omega
theorem lW (n m:Bool) (N M:Nat) (h:n≠m) (hle:M≤N):sgn n N+sgn m M=sgn n (N-M):=by
 unfold sgn;cases n <;> cases m <;> simp at h ⊢ <;> omega
theorem lT (n m:Bool) (N M:Nat) (h:n≠m) (hlt:N<M):sgn n N+sgn m M=sgn m (M-N):=by
 unfold sgn;cases n <;> cases m <;> simp at h ⊢ <;> omega
theorem pP:lim+lim≤W16:=by
 have h3:∀ n m,n=m+1→(2:Nat)^m+2^m=2^n:=fun n m h=>by subst h;rw[Nat.pow_succ];omega
 have h4:∀ m k,m=1023→k=16→lim+lim=W16:=fun m k hm hk=>by
  rw[pE m hm,jS k hk,h3 (64*k) m (by omega)]
 exact Nat.le_of_eq (h4 1023 16 rfl rfl)
theorem tF {N M:Nat} (h:N+M<W16):gH N M 16=0:=by
 unfold gH
 have e:∀ k,k=16→N%2^(64*k)+M%2^(64*k)<2^(64*k):=fun k hk=>by
  have:=pQ h hk;rw[Nat.mod_eq_of_lt (by omega),Nat.mod_eq_of_lt (by omega)];exact this
 have:=Nat.div_eq_of_lt (e 16 rfl);rw[this];rfl
theorem kT (N:Nat) (h:N<18446744073709551616):(rowW 16 0).setIfInBounds 0 (.int .u64 (N:Int))=rowW 16 N:=by
 rw[cp 16 0 0 N h];congr 1
 unfold bZ;simp[pW]
theorem nD {N:Nat} (h:N<18446744073709551616):N<lim:=Nat.lt_of_lt_of_le h (by
 have:∀ n,64≤n→18446744073709551616≤2^n:=fun n hn=>dL 64 n hn;unfold lim;exact this 1023 (by decide))
theorem rH {N:Nat} (h:N<18446744073709551616):bl N≤1023:=(iE N).2 (nD h)
theorem DD (N:Nat) (h:N≤9223372036854775807) (w:World) :
  Calls Tryz.prog 39 #[.int .i64 (N:Int)] w fun e w'=>e = .returned (.agg (WI.of (N:Int)).cells)∧Below w.heap.size w w':=by
 have E:=Lh (WI.pp (n:=false) (rH (N:=N) (by omega)));have hu:IntKind.u64.wrap (N:Int)=N:=by rw[IntKind.wrap_u64];omega
 have hs:=kT N (by omega);have hz:¬ (N:Int)<0:=by omega
 clear h;go_enter Tryz.func39,Tryz.ntmps39;go_wp2
 exact ak 18 (cellsI false false N) rfl rfl rfl Tryz.underlying47 rfl aE (by go_simp) ⟨by have:=E.out;simp only[sgn] at this;rw[show(WI.of (N:Int)).cells=_ from this];rfl,(Below.refl _ _).alloc (Nat.le_refl _) _⟩
theorem of_neg (N:Nat) (h0:0<N) (h:N≤9223372036854775808) (w:World) :
  Calls Tryz.prog 39 #[.int .i64 (-(N:Int))] w fun e w'=>e = .returned (.agg (WI.of (-(N:Int))).cells)∧Below w.heap.size w w':=by
 have E:=Lh (WI.pp (n:=true) (rH (N:=N) (by omega)));have hu:IntKind.u64.wrap (-IntKind.u64.wrap (-(N:Int)))=N:=by rw[IntKind.wrap_u64,IntKind.wrap_u64];omega
 have hs:=kT N (by omega);have hz : -(N:Int)<0:=by omega
 have H0:=Lh h0;clear h h0;go_enter Tryz.func39,Tryz.ntmps39;go_wp2
 exact ak 18 (cellsI true false N) rfl rfl rfl Tryz.underlying47 rfl aE (by go_simp) ⟨by have:=E.out;simp only[sgn,if_true] at this;rw[this,show(true&&decide (N≠0))=true by have:=H0.out;simp;omega],(Below.refl _ _).alloc (Nat.le_refl _) _⟩
theorem eg (z:Int) (h1 : -9223372036854775808≤z) (h2:z≤9223372036854775807) (w:World) :
  Calls Tryz.prog 39 #[.int .i64 z] w fun e w'=>e = .returned (.agg (WI.of z).cells)∧Below w.heap.size w w':=by
 by_cases hz:z<0
 ·obtain⟨N,rfl⟩:∃ N:Nat,z = -(N:Int):=⟨z.natAbs,by omega⟩;exact of_neg N (by omega) (by omega) w
 ·obtain⟨N,rfl⟩:∃ N:Nat,z=(N:Int):=⟨z.natAbs,by omega⟩;exact DD N (by omega) w
theorem add_over (x y:WI) (h:x.ov=true∨y.ov=true) (w:World) :
  Calls Tryz.prog 41 #[.agg x.cells,.agg y.cells] w fun e w'=>e = .returned (.agg (x.add y).cells)∧Below w.heap.size w w':=by
 rw[WI.add_over x y h];cases hx:x.ov with
 | true =>
  clear h;go_enter Tryz.func41,Tryz.ntmps41;go_wp2_with fail;refine(dW _).mono ?_;rintro e w1 ⟨rfl,hb1⟩;have z_w1:=hb1.size;(try simp at z_w1);have K_w1_0:=bq3 hb1 (w.heap.size);go_wp2
  exact ak 18 (cellsI false true 0) rfl rfl rfl Tryz.underlying47 rfl aE (by go_simp) ⟨rfl,ae⟩
 | false =>
  have hy:y.ov=true:=by rcases h with h|h <;> simp_all
  clear h;go_enter Tryz.func41,Tryz.ntmps41;go_wp2_with fail;refine(dW _).mono ?_;rintro e w1 ⟨rfl,hb1⟩;have z_w1:=hb1.size;(try simp at z_w1);have K_w1_0:=bq3 hb1 (w.heap.size);go_wp2
  exact ak 18 (cellsI false true 0) rfl rfl rfl Tryz.underlying47 rfl aE (by go_simp) ⟨rfl,ae⟩
theorem zF (x y:WI) (hx:x.ov=false) (hy:y.ov=false) (hn:y.ng=x.ng) (w:World) :
  Calls Tryz.prog 41 #[.agg x.cells,.agg y.cells] w fun e w'=>e = .returned (.agg (x.add y).cells)∧Below w.heap.size w w':=by
 have hlt:x.sz+y.sz<W16:=by have:=x.jX;have:=y.jX;have:=pP;omega
 rw[WI.ju hx hy,hn,iU];have hc:=tF hlt;have HLT:=Lh hlt;clear hlt;go_enter Tryz.func41,Tryz.ntmps41;go_wp2_with fail;refine(zH _ _ _ _ x.sz y.sz _ (.da (((Blk.new _ _ _).alloc _).alloc _)) (.da ((Blk.new' _ _ _ (by simp)).alloc _))).mono ?_;rintro e w1 ⟨rfl,hb1⟩;rw[hc];have z_w1:=hb1.size;(try simp at z_w1);have K_w1_0:=bq3 hb1 (w.heap.size);go_wp2_with fail;refine(fL _ _ HLT.out _).mono ?_;rintro e w2 ⟨rfl,hb2⟩;have z_w2:=hb2.size;(try simp at z_w2);have K_w2_0:=bq3 hb2 (w.heap.size);have Kw2ba:=bq hb2 (w1.heap.size);go_wp2
 exact ak 18 (WI.of (sgn x.ng (x.sz+y.sz))).cells rfl rfl rfl Tryz.underlying47 rfl aE (by go_simp) ⟨rfl,ae⟩
theorem Es (x y:WI) (hx:x.ov=false) (hy:y.ov=false) (hn:y.ng≠x.ng) (hle:y.sz≤x.sz) (w:World) :
  Calls Tryz.prog 41 #[.agg x.cells,.agg y.cells] w fun e w'=>e = .returned (.agg (x.add y).cells)∧Below w.heap.size w w':=by
 have hlt:x.sz-y.sz<W16:=by have:=x.bC;omega
 have hcmp:(0:Int)≤eE x.sz y.sz:=by unfold eE;split <;> (try split) <;> omega
 rw[WI.ju hx hy,lW _ _ _ _ (Ne.symm hn) hle];have HLT:=Lh hlt;have HLE:=Lh hle;have hne:(x.ng==y.ng)=false:=by rw[beq_eq_false_iff_ne];exact Ne.symm hn
 clear hlt hle hn;go_enter Tryz.func41,Tryz.ntmps41;go_wp2_with fail;refine(kD _ _ _ _ x.sz y.sz _ x.bC y.bC (.da (((Blk.new _ _ _).alloc _).alloc _)) (.da ((Blk.new' _ _ _ (by simp)).alloc _))).mono ?_;rintro e w1 ⟨rfl,hb1⟩;have z_w1:=hb1.size;(try simp at z_w1);have K_w1_0:=bq3 hb1 (w.heap.size);go_wp2_with fail
 go_region_held3 (fun w'=>w'.cell? ⟨w.heap.size,0,none⟩=some (.bool x.ng)) (go_simp)
  (first
   | (go_at_call 99;refine(CG _ _ _ _ x.sz y.sz HLE.out _ (.da (Blk.keep (((Blk.new w _ _).alloc _).alloc _) hb1).drew) (.da (Blk.keep ((Blk.new' _ _ _ (by simp)).alloc _) hb1).drew)).mono ?_;rintro e w2 ⟨rfl,hb2⟩;have z_w2:=hb2.size;(try simp at z_w2);have K_w2_0:=bq3 hb2 (w.heap.size))
   | (go_at_call 97;refine(fL _ _ HLT.out _).mono ?_;rintro e w3 ⟨rfl,hb3⟩;have z_w3:=hb3.size;(try simp at z_w3);have K_w3_0:=bq3 hb3 (w.heap.size)))
 go_wp2
 exact ak 18 (WI.of (sgn x.ng (x.sz-y.sz))).cells rfl rfl rfl Tryz.underlying47 rfl aE (by go_simp) ⟨rfl,ae⟩
theorem Er (x y:WI) (hx:x.ov=false) (hy:y.ov=false) (hn:y.ng≠x.ng) (hlt0:x.sz<y.sz) (w:World) :
  Calls Tryz.prog 41 #[.agg x.cells,.agg y.cells] w fun e w'=>e = .returned (.agg (x.add y).cells)∧Below w.heap.size w w':=by
 have hlt:y.sz-x.sz<W16:=by have:=y.bC;omega
 have hle:x.sz≤y.sz:=by omega
 have hcmp:eE x.sz y.sz<(0:Int):=by unfold eE;split <;> (try split) <;> omega
 rw[WI.ju hx hy,lT _ _ _ _ (Ne.symm hn) hlt0];have HLT:=Lh hlt;have HLE:=Lh hle;have hne:(x.ng==y.ng)=false:=by rw[beq_eq_false_iff_ne];exact Ne.symm hn
 clear hlt hle hn hlt0;go_enter Tryz.func41,Tryz.ntmps41;go_wp2_with fail;refine(kD _ _ _ _ x.sz y.sz _ x.bC y.bC (.da (((Blk.new _ _ _).alloc _).alloc _)) (.da ((Blk.new' _ _ _ (by simp)).alloc _))).mono ?_;rintro e w1 ⟨rfl,hb1⟩;have z_w1:=hb1.size;(try simp at z_w1);have K_w1_0:=bq3 hb1 (w.heap.size);go_wp2_with fail
 go_region_held3 (fun w'=>w'.cell? ⟨w.heap.size+1,0,none⟩=some (.bool y.ng)) (go_simp)
  (first
   | (go_at_call 99;refine(CG _ _ _ _ y.sz x.sz HLE.out _ (.da (Blk.keep ((Blk.new' _ _ _ (by simp)).alloc _) hb1).drew) (.da (Blk.keep (((Blk.new w _ _).alloc _).alloc _) hb1).drew)).mono ?_;rintro e w2 ⟨rfl,hb2⟩;have z_w2:=hb2.size;(try simp at z_w2);have K_w2_0:=bq3 hb2 (w.heap.size))
   | (go_at_call 97;refine(fL _ _ HLT.out _).mono ?_;rintro e w3 ⟨rfl,hb3⟩;have z_w3:=hb3.size;(try simp at z_w3);have K_w3_0:=bq3 hb3 (w.heap.size)))
 go_wp2
 exact ak 18 (WI.of (sgn y.ng (y.sz-x.sz))).cells rfl rfl rfl Tryz.underlying47 rfl aE (by go_simp) ⟨rfl,ae⟩
theorem mV (x y:WI) (w:World) :
  Calls Tryz.prog 41 #[.agg x.cells,.agg y.cells] w fun e w'=>e = .returned (.agg (x.add y).cells)∧Below w.heap.size w w':=by
 cases hx:x.ov with
 | true=>exact add_over x y (.inl hx) w
 | false =>
  cases hy:y.ov with
  | true=>exact add_over x y (.inr hy) w
  | false =>
   by_cases hn:y.ng=x.ng
   ·exact zF x y hx hy hn w
   ·by_cases hle:y.sz≤x.sz
    ·exact Es x y hx hy hn hle w
    ·exact Er x y hx hy hn (by omega) w
theorem WI.qG (x:WI) (h:x.ov=true):x.neg=x:=by
 apply WI.ext';unfold WI.neg;unfold WI.ov at h;cases hx:x.v with
 | none=>rfl
 | some z=>rw[hx] at h;cases h
theorem WI.qF {x:WI} (hx:x.ov=false):x.neg=WI.of (sgn (!x.ng) x.sz):=by
 unfold WI.neg;rw[WI.br hx];simp only;congr 1;cases x.ng <;> simp[sgn]
theorem qH (x:WI) (w:World) :
  Calls Tryz.prog 50 #[.agg x.cells] w fun e w'=>e = .returned (.agg x.neg.cells)∧Below w.heap.size w w':=by
 cases hx:x.ov with
 | true =>
  rw[WI.qG x hx];go_enter Tryz.func50,Tryz.ntmps50;go_wp2_with fail;exact ak 18 x.cells rfl rfl rfl Tryz.underlying47 rfl aE (by go_simp) ⟨rfl,ae⟩
 | false =>
  rw[WI.qF hx];have HLT:=Lh x.bC;go_enter Tryz.func50,Tryz.ntmps50;go_wp2_with fail;refine(fL _ _ HLT.out _).mono ?_;rintro e w1 ⟨rfl,hb1⟩;have z_w1:=hb1.size;(try simp at z_w1);have Kw1aa:=bq hb1 (w.heap.size);have Kw1ab:=bq hb1 (w.heap.size+1);go_wp2
  exact ak 18 (WI.of (sgn (!x.ng) x.sz)).cells rfl rfl rfl Tryz.underlying47 rfl aE (by go_simp) ⟨rfl,ae⟩
theorem jY (x y:WI) (w:World) :
  Calls Tryz.prog 48 #[.agg x.cells,.agg y.cells] w fun e w'=>e = .returned (.agg (x.sub y).cells)∧Below w.heap.size w w':=by
 go_enter Tryz.func48,Tryz.ntmps48;go_wp2_with fail
 go_region_held3 (fun w'=>w'.row? w.heap.size 0 18=some x.cells∧w'.row? (w.heap.size+1) 0 18=some y.cells) (go_simp)
  (first
   | (go_at_call 50;refine(qH _ _).mono ?_;rintro e w1 ⟨rfl,hb1⟩;have z_w1:=hb1.size;(try simp at z_w1);have K_w1_0:=bq3 hb1 (w.heap.size))
   | (go_at_call 41;refine(mV _ _ _).mono ?_;rintro e w2 ⟨rfl,hb2⟩;have z_w2:=hb2.size;(try simp at z_w2);have K_w2_0:=bq3 hb2 (w.heap.size)))
 go_wp2
 exact ak 18 (x.add y.neg).cells rfl rfl rfl Tryz.underlying47 rfl aE (by go_simp) ⟨rfl,ae⟩
end Go.Proofs.YtnoidlacjiafdaaGreat
namespace Go.Proofs.YtnoidlacjiafdaaGreat
open Go.RowKit

/-! ### The plain law of the school method -/
theorem yb (x y w c:Nat) (hx:x<18446744073709551616) (hy:y<18446744073709551616) (hw:w<18446744073709551616) (hc:c<18446744073709551616) :
  ∃ H L l1 c1 h1 v c2 c':Nat,H=x*y/18446744073709551616∧L=x*y%18446744073709551616∧L<18446744073709551616∧l1=(L+w)%18446744073709551616∧c1=(L+w)/18446744073709551616∧h1=H+c1∧h1<18446744073709551616∧l1<18446744073709551616∧v=(l1+c)%18446744073709551616∧c2=(l1+c)/18446744073709551616 ∧
   c'=h1+c2∧c'<18446744073709551616∧v+18446744073709551616*c'=x*y+w+c∧v<18446744073709551616:=by
 refine⟨_,_,_,_,_,_,_,_,rfl,rfl,Nat.mod_lt _ (by decide),rfl,rfl,rfl,?_,Nat.mod_lt _ (by decide),rfl,rfl,rfl,?_⟩
 all_goals
  have hxy:x*y≤18446744073709551615*18446744073709551615:=Nat.mul_le_mul (by omega) (by omega);generalize x*y=p at *;omega
theorem vL (A A' x M c v c' i j:Nat) (h:A'+c*2^(64*(i+j))=A+x*(M%2^(64*j))*2^(64*i))
  (hs:v+18446744073709551616*c'=x*wdn M j+wdn A' (i+j)+c) :
  bZ A' (i+j) v+c'*2^(64*(i+(j+1)))=A+x*(M%2^(64*(j+1)))*2^(64*i):=by
 have hle:=cT A' (i+j);rw[cj M j,← Nat.add_assoc i j 1,bz (i+j)]
 have e1:x*(M%2^(64*j)+2^(64*j)*wdn M j)*2^(64*i)=x*(M%2^(64*j))*2^(64*i)+x*wdn M j*2^(64*(i+j)):=by
  rw[Nat.mul_add,Nat.add_mul,show 64*(i+j)=64*j+64*i by omega,Nat.pow_add];congr 1
  rw[← Nat.mul_assoc,← Nat.mul_assoc,Nat.mul_assoc x,Nat.mul_comm (2^(64*j)),← Nat.mul_assoc]
 rw[e1,← Nat.add_assoc,← h];unfold bZ;generalize 2^(64*(i+j))=p at *;have e2:(v+18446744073709551616*c')*p=(x*wdn M j+wdn A' (i+j)+c)*p:=by rw[hs]
 simp only[Nat.add_mul] at e2
 have e3:c'*(p*18446744073709551616)=18446744073709551616*c'*p:=by
  rw[Nat.mul_comm p,← Nat.mul_assoc,Nat.mul_comm c']
 rw[e3];omega
theorem vK (A A' N M c i n:Nat) (hA:A=N%2^(64*i)*M) (hM:M<2^(64*n)) (hA':A'<2^(64*(i+n)))
  (h:A'+c*2^(64*(i+n))=A+wdn N i*(M%2^(64*n))*2^(64*i)):bZ A' (i+n) c=N%2^(64*(i+1))*M:=by
 rw[Nat.mod_eq_of_lt hM] at h;have h0:wdn A' (i+n)+c=c:=by rw[co A' (i+n) (i+n) hA' (Nat.le_refl _)];omega
 rw[fZ _ _ _ _ h0,h,hA,cj,Nat.add_mul];congr 1
 rw[Nat.mul_comm (2^(64*i)),Nat.mul_assoc,Nat.mul_assoc,Nat.mul_comm M]
theorem vM (N M i n:Nat) (hM:M<2^(64*n)):N%2^(64*i)*M<2^(64*(i+n)):=by
 rw[show 64*(i+n)=64*i+64*n by omega,Nat.pow_add];have h1:=Nat.mod_lt N (Nat.two_pow_pos (64*i));rcases Nat.eq_zero_or_pos M with rfl|hM0
 ·rw[Nat.mul_zero];exact Nat.mul_pos (Nat.two_pow_pos _) (Nat.two_pow_pos _)
 ·exact Nat.lt_of_lt_of_le (Nat.mul_lt_mul_of_pos_right h1 hM0) (Nat.mul_le_mul_left _ (Nat.le_of_lt hM))
theorem WI.iJ (x:WI) (i:Nat) (h:i<16):x.cells[2+i]? = some (.int .u64 ((wdn x.sz i:Nat):Int)):=by
 rw[x.dc];exact kE _ _ _ i h
theorem aZ (n N i:Nat) (h:i<n):(rowW n N)[i]? = some (.int .u64 ((wdn N i:Nat):Int)):=cL n N i h
theorem eU (X Y H L:Nat) (hX:X<18446744073709551616) (hY:Y<18446744073709551616) (hH:H=X*Y/18446744073709551616) (hL:L=X*Y%18446744073709551616) (w:World) :
  Calls Tryz.prog 101 #[.int .u64 X,.int .u64 Y] w fun e w'=>e = .returned (.tuple #[.int .u64 (H:Int),.int .u64 (L:Int)])∧w'=w :=
 (Be X Y hX hY w).mono fun _ _ ⟨h1,h2⟩=>⟨by rw[h1,hH,hL],h2.symm⟩
theorem lE (X Y l c:Nat) (hX:X<18446744073709551616) (hY:Y<18446744073709551616) (hl:l=(X+Y)%18446744073709551616) (hc:c=(X+Y)/18446744073709551616) (w:World) :
  (callFunc 102 #[.int .u64 (X:Int),.int .u64 (Y:Int),.int .u64 0]).run Tryz.prog w = .ok (.value (.tuple #[.int .u64 (l:Int),.int .u64 (c:Int)])) w:=by
 rw[zJ X Y 0 (by omega) (by omega) (by omega) (by omega) (by omega) (by omega),hl,hc];congr 5 <;> omega
theorem iy (a b c:Nat) (h:c=a+b) (hc:c<18446744073709551616):IntKind.u64.wrap ((a:Int)+(b:Int))=(c:Int):=by
 rw[IntKind.wrap_u64];omega
theorem qk (A:Nat):(_root_.Go.splice (rowW 16 0).toList 0 (rowW 16 A).toList).toArray=rowW 16 A:=by
 unfold _root_.Go.splice;rw[List.take_zero,List.nil_append,List.drop_eq_nil_of_le (by simp),List.append_nil,Array.toArray_toList]
theorem Av (n m:Bool) (N M:Nat):sgn n N*sgn m M=sgn (n != m) (N*M):=by
 unfold sgn;cases n <;> cases m <;> simp[Int.neg_mul,Int.mul_neg]
theorem WI.qI {x y:WI} (hx:x.ov=false) (hy:y.ov=false):x.mul y=WI.of (sgn (x.ng != y.ng) (x.sz*y.sz)):=by
 unfold WI.mul;rw[WI.br hx,WI.br hy];simp only[Av]
theorem WI.mul_over (x y:WI) (h:x.ov=true∨y.ov=true):x.mul y=WI.over:=by
 unfold WI.mul;unfold WI.ov at h;cases hx:x.v <;> cases hy:y.v <;> simp_all
theorem pm (n:Bool) (A k:Nat) (h:wdn A (16+k)≠0):WI.of (sgn n A)=WI.over:=by
 have h1:=fv A (16+k) h;refine WI.pq ?_;rw[dr];have h2:∀ m,m=16→W16≤2^(64*(m+k)):=fun m hm=>by rw[jS m hm];exact dL _ _ (by omega)
 have:=h2 16 rfl;have:=mB;omega
theorem lQ (A:Nat) (hA:LtW A 32) (h:∀ m,m<16→wdn A (16+m)=0):A<W16:=by
 have key:∀ j n,j≤16→n=32→A<2^(64*(n-j)):=by
  intro j;induction j with
  | zero=>intro n _ hn;rw[← hn] at hA;exact hA
  | succ j ih =>
   intro n hj hn;have:=ih n (by omega) hn;rw[show n-j=(n-(j+1))+1 by omega] at this;refine cg A _ this ?_;have:=h (16-(j+1)) (by omega);rwa [show 16+(16-(j+1))=n-(j+1) by omega] at this
 have h2:∀ m,m=16→A<2^(64*m)→A<W16:=fun m hm h=>by rw[jS m hm];exact h
 have h4:∀ n,n=32→A<W16:=fun n hn=>h2 (n-16) (by omega) (key 16 n (by omega) hn);exact h4 32 rfl
theorem qm:rowW 32 0=#[.int .u64 0,.int .u64 0,.int .u64 0,.int .u64 0,.int .u64 0,.int .u64 0,.int .u64 0,.int .u64 0,.int .u64 0,.int .u64 0,.int .u64 0,.int .u64 0,.int .u64 0,.int .u64 0,.int .u64 0,.int .u64 0,
  .int .u64 0,.int .u64 0,.int .u64 0,.int .u64 0,.int .u64 0,.int .u64 0,.int .u64 0,.int .u64 0,.int .u64 0,.int .u64 0,.int .u64 0,.int .u64 0,.int .u64 0,.int .u64 0,.int .u64 0,.int .u64 0]:=by
 simp[rowW,Array.ofFn_succ,oK]
@[go_sem ↓] theorem Gg (w : World) : (zeroValue 134).run Tryz.prog w = .ok (.agg (rowW 32 0)) w := by
  rw[qm];exact Tryz.zeroValue134 w
theorem yc (x y:WI) (hx:x.ov=false) (hy:y.ov=false) (w:World) :
  Calls Tryz.prog 42 #[.agg x.cells,.agg y.cells] w fun e w'=>e = .returned (.agg (x.mul y).cells)∧Below w.heap.size w w':=by
 rw[WI.qI hx hy];obtain⟨A,hA0⟩:∃ A,A=x.sz*y.sz:=⟨_,rfl⟩;rw[← hA0];have HA0:=Lh hA0
 have hA:LtW A 32:=by
  have h1:=x.bC;have h2:=y.bC
  have h3:∀ m,m=16→LtW A (m+m):=fun m hm=>by
   unfold LtW;rw[show 64*(m+m)=64*m+64*m by omega,Nat.pow_add,hA0];exact Nat.mul_lt_mul'' (pQ h1 hm) (pQ h2 hm)
  exact h3 16 rfl
 have HA:=Lh hA;clear hA0 hA;go_enter Tryz.func42,Tryz.ntmps42;go_wp2_with fail;refine(eT _ _ _ _ x.bC (.da ((((Blk.new _ _ _).alloc _).alloc _).alloc _))).mono ?_;rintro e w' ⟨rfl,rfl⟩;go_wp2_with fail;refine(eT _ _ _ _ y.bC (.da (((Blk.new' _ _ _ (by simp)).alloc _).alloc _))).mono ?_;rintro e w' ⟨rfl,rfl⟩;have hm16:np x.sz≤16:=(bX _ _).2 (LtW.of16 x.bC);have hn16:np y.sz≤16:=(bX _ _).2 (LtW.of16 y.bC);have hylt:Hid (y.sz<2^(64*np y.sz)):=kn _;go_wp2_with fail;go_loopw [29] (fun i wr=>∃ k:Nat,k≤np x.sz∧i = .int .i64 k∧Below w.heap.size w wr∧Blk wr w.heap.size x.cells 47∧Blk wr (w.heap.size+1) y.cells 47∧Blk wr (w.heap.size+1+1) (cellsI false false 0) 47∧Blk wr (w.heap.size+1+1+1) (rowW 32 (x.sz%2^(64*k)*y.sz)) 134) (fun i _=>np x.sz-(intOf i).toNat)
 case atStart =>
  refine⟨0,by omega,rfl,ae,(((Blk.new _ _ _).alloc _).alloc _).alloc _,((Blk.new' _ _ _ (by simp)).alloc _).alloc _,(Blk.new' _ _ _ (by simp)).alloc _,?_⟩;rw[show x.sz%2^(64*0)*y.sz=0 by simp[Nat.mod_one]];exact Blk.new' _ _ _ (by simp)
 case round =>
  obtain⟨i,hi,rfl,hb,q0,q1,q2,q3⟩:=hrel;obtain⟨wo,rfl⟩:∃ wo:World,wo=wr:=⟨_,rfl⟩;by_cases hlt:i<np x.sz
  ·have hlt':(i:Int)<np x.sz:=by omega
   have HB:=Lh hb;have Q0:=Lh q0;have Q1:=Lh q1;have Q2:=Lh q2;have Q3:=Lh q3;clear hb q0 q1 q2 q3;go_wp2_with fail;go_loopw [9,33] (fun c j wr=>∃ k A c',k≤np y.sz∧j = .int .i64 (k:Nat)∧c = .int .u64 (c':Nat)∧c'<18446744073709551616∧Below w.heap.size w wr∧Blk wr w.heap.size x.cells 47∧Blk wr (w.heap.size+1) y.cells 47∧Blk wr (w.heap.size+1+1) (cellsI false false 0) 47∧Blk wr (w.heap.size+1+1+1) (rowW 32 A) 134∧LtW A (i+np y.sz)∧Hid (A+c'*2^(64*(i+k))=x.sz%2^(64*i)*y.sz+wdn x.sz i*(y.sz%2^(64*k))*2^(64*i))) (fun _ j _=>np y.sz-(intOf j).toNat)
   case atStart =>
    refine⟨0,_,0,by omega,rfl,rfl,by omega,HB.out,Q0.out,Q1.out,Q2.out,Q3.out,vM _ _ _ _ hylt.out,?_⟩;exact Lh (by simp[Nat.mod_one])
   case round =>
    obtain⟨j,A,c,hj,rfl,rfl,hc,hb,q0,q1,q2,q3,hA,hrec⟩:=hrel;by_cases hlj:j<np y.sz
    ·have hlj':(j:Int)<np y.sz:=by omega
     have hi16:i<16:=by omega
     have hj16:j<16:=by omega
     have e0:wr.cell? ⟨w.heap.size,2+i,none⟩=some (.int .u64 ((wdn x.sz i:Nat):Int)):=q0.cell (x.iJ i hi16);have e1:wr.cell? ⟨w.heap.size+1,2+j,none⟩=some (.int .u64 ((wdn y.sz j:Nat):Int)):=q1.cell (y.iJ j hj16);have e3:wr.cell? ⟨w.heap.size+1+1+1,i+j,none⟩=some (.int .u64 ((wdn A (i+j):Nat):Int)):=q3.cell (aZ 32 A (i+j) (by omega));have f3:wr.frozen? ⟨w.heap.size+1+1+1,i+j,none⟩=false:=q3.frozen _;have hX:=bB x.sz i;have hY:=bB y.sz j;have hW:=bB A (i+j);obtain⟨H,L,l1,c1,h1,v,c2,c',hH,hL,hLlt,hl1,hc1,hh1,hh1lt,hl1lt,hv,hc2,hc',hc'lt,hstep,hvlt⟩:=yb _ _ _ _ hX hY hW hc;have hinv:=Lh (vL _ A _ _ c v c' i j hrec.out hstep);have hlw:=iV A (i+j) v (i+np y.sz) hvlt (by omega) hA;have hset:=Lh (cp 32 A (i+j) v hvlt);have a1:=fun w=>lE L (wdn A (i+j)) l1 c1 hLlt hW hl1 hc1 w;have a2:=fun w=>lE l1 c v c2 hl1lt hc hv hc2 w;have w1:=iy H c1 h1 hh1 hh1lt;have w2:=iy h1 c2 c' hc' hc'lt;have HM:=fun w=>Lh (eU (wdn x.sz i) (wdn y.sz j) H L hX hY hH hL w);have HB:=Lh hb;have Q0:=Lh q0;have Q1:=Lh q1;have Q2:=Lh q2;have Q3:=Lh q3;clear hb q0 q1 q2 q3 hrec hX hY hW hH hL hLlt hl1 hc1 hh1 hh1lt hl1lt hv hc2 hc' hstep hc;have hij:(0:Int)≤(i:Int)+j:=by omega
     have hij':(i:Int)+j<32:=by omega
     go_wp2_with fail;go_quiet ((go_at_call 101;exact Calls.quiet_of_same (HM _).out))
     go_wp2
     refine⟨⟨j+1,bZ A (i+j) v,c',by omega,by go_num,rfl,hc'lt,?_,?_,?_,?_,?_,hlw,hinv⟩,by simp[intOf];omega⟩
     ·exact(below_drewN HB.out _).setCell (by simp;omega) _
     ·exact(Q0.out:Blk (wr.drewN _) _ _ _).ac (by first|omega|(simp;done)|(simp;omega)|fail) _
     ·exact(Q1.out:Blk (wr.drewN _) _ _ _).ac (by first|omega|(simp;done)|(simp;omega)|fail) _
     ·exact(Q2.out:Blk (wr.drewN _) _ _ _).ac (by first|omega|(simp;done)|(simp;omega)|fail) _
     ·rw[← hset.out];exact(Q3.out:Blk (wr.drewN _) _ _ _).ab _ _
    ·have hjn:j=np y.sz:=by omega
     subst hjn;have ho:=vK _ A x.sz y.sz c i _ rfl hylt.out hA hrec.out;have hset:=cp 32 A (i+np y.sz) c hc;rw[ho] at hset;have HSET:=Lh hset;have e3:wr.cell? ⟨w.heap.size+1+1+1,i+np y.sz,none⟩=some (.int .u64 ((wdn A (i+np y.sz):Nat):Int)):=q3.cell (aZ 32 A (i+np y.sz) (by omega));have f3:wr.frozen? ⟨w.heap.size+1+1+1,i+np y.sz,none⟩=false:=q3.frozen _;have HB:=Lh hb;have Q0:=Lh q0;have Q1:=Lh q1;have Q2:=Lh q2;have Q3:=Lh q3;clear hb q0 q1 q2 q3 hrec ho hset hc;have hij:(0:Int)≤(i:Int)+np y.sz:=by omega
     have hij':(i:Int)+np y.sz<32:=by omega
     go_wp2
     refine⟨⟨i+1,by omega,by go_num,?_,?_,?_,?_,?_⟩,by simp[intOf];omega⟩
     ·exact HB.out.setCell (by simp;omega) _
     ·exact Q0.out.ac (by first|omega|(simp;done)|(simp;omega)|fail) _
     ·exact Q1.out.ac (by first|omega|(simp;done)|(simp;omega)|fail) _
     ·exact Q2.out.ac (by first|omega|(simp;done)|(simp;omega)|fail) _
     ·rw[← HSET.out];exact Q3.out.ab _ _
  ·have hin:i=np x.sz:=by omega
   subst hin;rw[Nat.mod_eq_of_lt (kn x.sz),← HA0.out] at q3;have HB:=Lh hb;have Q0:=Lh q0;have Q1:=Lh q1;have Q2:=Lh q2;have Q3:=Lh q3;clear hb q0 q1 q2 q3;go_wp2_with fail;refine dv 2 (by kernel_rfl) (by kernel_rfl) ?_;simp only[List.take_succ_cons,List.take_zero,List.drop_succ_cons,List.drop_zero];(repeat still_step);(try refine wpStill_nil ?_);go_wp2_with (refine wpList_copy_splice rfl _ _ 139 139 rfl 43 Tryz.underlying139 jG _ _ 16 16 16 32 rfl rfl wo.heap.size 0 (rowW 16 0).toList 45 (by rw[Array.toArray_toList];exact(Blk.new wo _ _).drew) (rowW 16 A).toList (by simp) (fun _=>⟨rfl,_,rfl,fun j v hv=>?_⟩) (by simp) ?_ wo.heap.size (wo.alloc (.cells (rowW 16 0) 45)).drew (Below.refl _ _) (Nat.le_refl _) ?_)
   · have hj : j < 16 := by
       have:=(List.getElem?_eq_some_iff.1 hv).1;simpa using this
     rw[Array.getElem?_toList,cL 16 A j hj] at hv;rw[Addr.add_mid,← hv,Nat.zero_add];exact(Blk.cell ((Q3.out.alloc _).drew) (by rw[cL 32 A j (by omega)]))
   ·intro v hv;exact(Array.all_eq_true_iff_forall_mem.1 (bN 16 A)) v (by simpa using hv)
   intro w2 hg2 hb2;have q4:Blk w2 wo.heap.size (rowW 16 A) 45:=by have:=hg2.out;rw[qk] at this;exact this
   have q0:Blk w2 w.heap.size x.cells 47:=((Q0.out.alloc _).drew).below hb2 Q0.out.lt;have q1:Blk w2 (w.heap.size+1) y.cells 47:=((Q1.out.alloc _).drew).below hb2 Q1.out.lt;have q2:Blk w2 (w.heap.size+1+1) (cellsI false false 0) 47:=((Q2.out.alloc _).drew).below hb2 Q2.out.lt;have q3:Blk w2 (w.heap.size+1+1+1) (rowW 32 A) 134:=((Q3.out.alloc _).drew).below hb2 Q3.out.lt;have HB2:Hid (Below w.heap.size w w2):=((HB.out.alloc HB.out.size _).drew).trans (hb2.mono HB.out.size);have ns:wo.heap.size<w2.heap.size:=q4.lt;have n2:w.heap.size+1+1<w2.heap.size:=q2.lt;have Q0:=Lh q0;have Q1:=Lh q1;have Q2:=Lh q2;have Q3:=Lh q3;have Q4:=Lh q4;clear q0 q1 q2 q3 q4 hb2 hg2 HB;go_wp2_with fail;go_loop [86] (fun i=>∃ k:Nat,k≤16∧i = .int .i64 k∧Hid (∀ m,m<k→wdn A (16+m)=0)) (fun i=>16-(intOf i).toNat)
   case atStart=>exact⟨0,by omega,rfl,Lh (fun m hm=>absurd hm (Nat.not_lt_zero m))⟩
   case round =>
    obtain⟨k,hk,rfl,hz⟩:=hrel;by_cases hlt:k<16
    ·have hlt':(k:Int)<16:=by omega
     have e3:w2.cell? ⟨w.heap.size+1+1+1,16+k,none⟩=some (.int .u64 ((wdn A (16+k):Nat):Int)):=Q3.out.cell (aZ 32 A (16+k) (by omega));by_cases h0:wdn A (16+k)=0
     ·have h0':((wdn A (16+k):Int) != 0)=false:=by simp[h0]
      have hz':Hid (∀ m,m<k+1→wdn A (16+m)=0):=fun m hm=>by
       rcases Nat.lt_succ_iff_lt_or_eq.1 hm with h|h
       ·exact hz.out m h
       ·rw[h];exact h0
      clear h0 hz;go_wp2
      go_round
      case rel=>exact⟨k+1,by omega,by go_num,hz'⟩
      case measure=>simp[intOf] <;> omega
     ·have h0':((wdn A (16+k):Int) != 0)=true:=by simp;omega
      have E:=Lh (pm (x.ng != y.ng) A k h0);have p2:=Q2.out.put? 0 (cellsI false true 0) (by simp) (by simp);clear h0 hz;go_wp2_with fail;refine(dW _).mono ?_;rintro e w3 ⟨rfl,hb3⟩;have z_w3:=hb3.size;(try simp at z_w3);have K_w3_0:=bq3 hb3 (w.heap.size);have p3:=(Q2.out.keep hb3).put? 0 (cellsI false true 0) (by simp) (by simp);have p4:=cP p3 (n:=18) (by simp);go_wp2
      exact ak 18 (cellsI false true 0) rfl rfl rfl Tryz.underlying47 rfl aE (by go_simp) ⟨by rw[E.out];rfl,ae⟩
    ·have hk16:k=16:=by omega
     subst hk16;have hs:=Lh (lQ A HA.out hz.out);have e0:w2.cell? ⟨w.heap.size,0,none⟩=some (.bool x.ng):=Q0.out.cell x.pN;have e1:w2.cell? ⟨w.heap.size+1,0,none⟩=some (.bool y.ng):=Q1.out.cell y.pN;have e4:w2.row? wo.heap.size 0 16=some (rowW 16 A):=Q4.out.row?_all 16 (by simp);go_wp2_with fail;refine(fL _ _ hs.out _).mono ?_;rintro e w3 ⟨rfl,hb3⟩;have p3:=(Q2.out.keep hb3).put? 0 (WI.of (sgn (!x.ng==y.ng) A)).cells (by simp) (by simp);have p4:=cP p3 (n:=18) (by simp);go_wp2
     exact ak 18 (WI.of (sgn (!x.ng==y.ng) A)).cells rfl rfl rfl Tryz.underlying47 rfl aE (by go_simp) ⟨by rw[show(!x.ng==y.ng)=(x.ng != y.ng) by cases x.ng <;> cases y.ng <;> rfl],ae⟩
theorem mul_over (x y:WI) (h:x.ov=true∨y.ov=true) (w:World) :
  Calls Tryz.prog 42 #[.agg x.cells,.agg y.cells] w fun e w'=>e = .returned (.agg (x.mul y).cells)∧Below w.heap.size w w':=by
 rw[WI.mul_over x y h];cases hx:x.ov with
 | true =>
  clear h;go_enter Tryz.func42,Tryz.ntmps42;go_wp2_with fail;refine(dW _).mono ?_;rintro e w1 ⟨rfl,hb1⟩;have z_w1:=hb1.size;(try simp at z_w1);have K_w1_0:=bq3 hb1 (w.heap.size);go_wp2
  exact ak 18 (cellsI false true 0) rfl rfl rfl Tryz.underlying47 rfl aE (by go_simp) ⟨rfl,ae⟩
 | false =>
  have hy:y.ov=true:=by rcases h with h|h <;> simp_all
  clear h;go_enter Tryz.func42,Tryz.ntmps42;go_wp2_with fail;refine(dW _).mono ?_;rintro e w1 ⟨rfl,hb1⟩;have z_w1:=hb1.size;(try simp at z_w1);have K_w1_0:=bq3 hb1 (w.heap.size);go_wp2
  exact ak 18 (cellsI false true 0) rfl rfl rfl Tryz.underlying47 rfl aE (by go_simp) ⟨rfl,ae⟩
theorem cN (x y:WI) (w:World) :
  Calls Tryz.prog 42 #[.agg x.cells,.agg y.cells] w fun e w'=>e = .returned (.agg (x.mul y).cells)∧Below w.heap.size w w':=by
 cases hx:x.ov with
 | true=>exact mul_over x y (.inl hx) w
 | false =>
  cases hy:y.ov with
  | true=>exact mul_over x y (.inr hy) w
  | false=>exact yc x y hx hy w
end Go.Proofs.YtnoidlacjiafdaaGreat
namespace Go.Proofs.YtnoidlacjiafdaaGreat
open Go.RowKit

theorem WI.sign_eq (x:WI):x.sign=if x.ov=true∨x.sz=0 then 0 else if x.ng=true then -1 else 1:=by
 unfold WI.sign WI.ov WI.sz WI.ng;cases x.v with
 | none=>simp
 | some z =>
  simp;rcases Int.lt_trichotomy z 0 with h|h|h
  ·rw[Int.sign_eq_neg_one_of_neg h,if_neg (by omega),if_pos h]
  ·subst h;simp
  ·rw[Int.sign_eq_one_of_pos h,if_neg (by omega),if_neg (by omega)]
theorem dX (x:WI) (w:World) :
  Calls Tryz.prog 53 #[.agg x.cells] w fun e w'=>e = .returned (.int .i64 x.sign)∧Below w.heap.size w w':=by
 have HE:=Lh x.sign_eq;have HQ:=Lh (eD x.sz x.bC);cases ho:x.ov with
 | true =>
  have e:Hid (x.sign=0):=by rw[ho] at HE;have:=HE.out;simp at this;exact this
  go_enter Tryz.func53,Tryz.ntmps53;go_wp2
  go_ret;exact⟨cq e.out.symm,ae⟩
 | false =>
  by_cases h0:x.sz=0
  ·have e:Hid (x.sign=0):=by have:=HE.out;simp[h0] at this;exact this
   have hq:eqW x.sz 0=true:=by rw[HQ.out];simp[h0]
   have H0:=Lh h0;clear h0;go_enter Tryz.func53,Tryz.ntmps53;go_wp2
   go_ret;exact⟨cq e.out.symm,ae⟩
  ·have hq:eqW x.sz 0=false:=by rw[HQ.out];simp[h0]
   cases hn:x.ng with
   | true =>
    have e:Hid (x.sign = -1):=by have:=HE.out;simp[h0,ho,hn] at this;exact this
    have H0:=Lh h0;clear h0;go_enter Tryz.func53,Tryz.ntmps53;go_wp2
    go_ret;exact⟨cq e.out.symm,ae⟩
   | false =>
    have e:Hid (x.sign=1):=by have:=HE.out;simp[h0,ho,hn] at this;exact this
    have H0:=Lh h0;clear h0;go_enter Tryz.func53,Tryz.ntmps53;go_wp2
    go_ret;exact⟨cq e.out.symm,ae⟩
theorem gb (x:WI) (w:World) :
  Calls Tryz.prog 114 #[.agg x.cells] w fun e w'=>e = .returned (.bool x.ov)∧Below w.heap.size w w':=by
 go_enter Tryz.func114,Tryz.ntmps114;go_wp2
 go_ret;exact⟨rfl,ae⟩
end Go.Proofs.YtnoidlacjiafdaaGreat
