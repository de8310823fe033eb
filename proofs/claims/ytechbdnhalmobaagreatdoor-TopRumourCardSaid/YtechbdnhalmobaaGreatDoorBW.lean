/- The walks of package wide's inner functions on sizes: parts, bits, cmp, add, sub. Each returns what its number says; the world keeps all that was there. The walks of math/bits' functions that package wide calls: Mul64, Len64. After the library's own proofs of these. Rules for rows of package wide at this program; the walks of bits, tooGreat, made, Of. The walks of package wide's Of, Neg, Add, Sub. The walk of package wide's Mul. The walks of package wide's Sign, Over, Bits, Cmp, Int64. -/
import Derived.Test.YtechbdnhalmobaaGreatDoorBA
import Derived.WalkKit
import Derived.WalkSpells
import Derived.WalkLawsBesides
import Derived.BigQuiet
import Derived.Deep.QuietTactic
import Derived.Deep.RegionHeld3
import Derived.Laws.Externs
import Derived.Shelf.Spec.BitsCarry
import Derived.Lib.Mul64
import Derived.Test.YtechbdnhalmobaaGreatDoorLn
import Derived.Laws.Bits64b
import Derived.StillTailTactics
import Derived.Laws.CopyOwn
import Derived.Deep.RegionLaw
set_option maxRecDepth 100000
set_option maxHeartbeats 16000000
namespace Go.Proofs.YtechbdnhalmobaaGreatDoor
set_option linter.unusedSimpArgs false
set_option linter.unusedVariables false
open Go.RowKit

theorem add64 (x y c:Int) (hx:0≤x) (hy:0≤y) (hx':x<18446744073709551616) (hy':y<18446744073709551616) (hc0:0≤c) (hc:c≤1) (w:World):(callFunc 202 #[.int .u64 x,.int .u64 y,.int .u64 c]).run Tryz.prog w =
  .ok (.value (.tuple #[.int .u64 ((x+y+c)%18446744073709551616),.int .u64 ((x+y+c)/18446744073709551616)])) w:=by
 obtain ⟨x,rfl⟩:=Int.eq_ofNat_of_zero_le hx
 obtain ⟨y,rfl⟩:=Int.eq_ofNat_of_zero_le hy
 obtain ⟨c,rfl⟩:=Int.eq_ofNat_of_zero_le hc0
 rw [run_callFunc_extern Tryz.func202 (by kernel_rfl) (by kernel_rfl) (by kernel_rfl) (e:=add64Entry) (by kernel_rfl),run_add64 x y c (by omega) (by omega) (by omega) (by omega)]
 rfl
theorem add64_wd (N M i:Nat) (w:World):(callFunc 202 #[.int .u64 (wd N i),.int .u64 (wd M i),.int .u64 (carr N M i)]).run Tryz.prog w =
  .ok (.value (.tuple #[.int .u64 (wd (N+M) i),.int .u64 (carr N M (i+1))])) w:=by
 rw [add64 _ _ _ (wd_nonneg _ _) (wd_nonneg _ _) (wd_lt _ _) (wd_lt _ _) (carr_nonneg _ _ _) (carr_le _ _ _),add_word,carr_succ]
theorem sub64 (x y b:Int) (hx:0≤x) (hy:0≤y) (hy':y<18446744073709551616) (hb0:0≤b) (hb:b≤1) (w:World):(callFunc 269 #[.int .u64 x,.int .u64 y,.int .u64 b]).run Tryz.prog w =
  .ok (.value (.tuple #[.int .u64 ((x-y-b)%18446744073709551616),.int .u64 (if x<y+b then 1 else 0)])) w:=by
 obtain ⟨x,rfl⟩:=Int.eq_ofNat_of_zero_le hx
 obtain ⟨y,rfl⟩:=Int.eq_ofNat_of_zero_le hy
 obtain ⟨b,rfl⟩:=Int.eq_ofNat_of_zero_le hb0
 have e1:(((x+18446744073709551616-y-b)%18446744073709551616:Nat):Int)=((x:Int)-y-b)%18446744073709551616:=by omega
 have e2:((if x<y+b then 1 else 0:Nat):Int)=if (x:Int)<y+b then 1 else 0:=by split <;> split <;> omega
 rw [← e1,← e2]
 rw [run_callFunc_extern Tryz.func269 (by kernel_rfl) (by kernel_rfl) (by kernel_rfl) (e:=sub64Entry) (by kernel_rfl),run_sub64 x y b (by omega)]
 rfl
theorem sub64_wd (N M i:Nat) (hle:M≤N) (w:World):(callFunc 269 #[.int .u64 (wd N i),.int .u64 (wd M i),.int .u64 (borr N M i)]).run Tryz.prog w =
  .ok (.value (.tuple #[.int .u64 (wd (N-M) i),.int .u64 (borr N M (i+1))])) w:=by
 rw [sub64 _ _ _ (wd_nonneg _ _) (wd_nonneg _ _) (wd_lt _ _) (borr_nonneg _ _ _) (borr_le _ _ _),sub_word _ _ _ hle,borr_succ]
theorem info_size:(Tryz.prog.info? 151).map (·.size)=some 16:=by kernel_rfl
theorem info_Int:(Tryz.prog.info? 153).map (·.size)=some 18:=by kernel_rfl
theorem parts_c (b o N:Nat) (w:World) (hN:N<W16) (hx:RowAt w b o N) :
  Calls Tryz.prog 200 #[.pointer (some ⟨b,o,none⟩)] w fun e w'=>e = .returned (.int .i64 (np N))∧w=w':=by
 have HN:=Lib.hid hN
 clear hN
 go_enter Tryz.func200,Tryz.ntmps200
 go_wp2
 go_loop [3] (fun i=>∃ k:Nat,k≤16∧i = .int .i64 k∧LtW N k) (fun i=>(intOf i).toNat)
 case atStart=>exact ⟨16,by omega,rfl,.of16 HN.out⟩
 case round =>
  obtain ⟨k,hk,rfl,hlt⟩:=hrel
  rcases k with _|k
  ·have e:np N=0:=Nat.le_zero.1 ((np_le_iff N 0).2 hlt)
   have E:=Lib.hid e
   clear e
   go_wp2
   go_ret
   exact ⟨ret_int (by rw [E.out];rfl),rfl⟩
  ·have hc:w.cell? ⟨b,o+k,none⟩=some (.int .u64 (wd N k)):=(hx k (by omega)).1
   have h1:(0:Int)<(k:Int)+1:=by omega
   by_cases hz:wdn N k=0
   ·have hz':(wd N k==0)=true:=by simp [wd,hz]
    have hn:=lt_pow_of_wdn_zero N k hlt hz
    have HN':LtW N k:=hn
    clear hz hn
    go_wp2
    go_round
    case rel=>exact ⟨k,by omega,by go_num,HN'⟩
    case measure=>simp [intOf] <;> omega
   ·have hz':(wd N k==0)=false:=by simp [wd];omega
    have e:np N=k+1:=np_unique N (k+1) hlt (.inr (pow_le_of_wdn_ne N k hz))
    have E:=Lib.hid e
    clear hz e
    go_wp2
    go_ret
    exact ⟨ret_int (by rw [E.out];simp),rfl⟩
theorem cmp_step_lt (N M k:Nat) (h:Hid (N/2^(64*(k+1))=M/2^(64*(k+1)))) (h1:wd N k<wd M k):cmpN N M = -1:=by
 unfold cmpN;rw [if_pos (lt_of_word N M k h.out h1)]
theorem cmp_step_gt (N M k:Nat) (h:Hid (N/2^(64*(k+1))=M/2^(64*(k+1)))) (h1:wd M k<wd N k):cmpN N M=1:=by
 have:=lt_of_word M N k h.out.symm h1
 unfold cmpN;rw [if_neg (by omega),if_pos this]
theorem cmpN_self (N:Nat):cmpN N N=0:=by unfold cmpN;simp
theorem cmp_c (b o b' o' N M:Nat) (w:World) (hN:N<W16) (hM:M<W16) (hx:RowAt w b o N) (hy:RowAt w b' o' M) :
  Calls Tryz.prog 206 #[.pointer (some ⟨b,o,none⟩),.pointer (some ⟨b',o',none⟩)] w fun e w'=>e = .returned (.int .i64 (cmpN N M))∧Below w.heap.size w w':=by
 have HN:=Lib.hid hN
 have HM:=Lib.hid hM
 clear hN hM
 go_enter Tryz.func206,Tryz.ntmps206
 go_wp2
 go_loopw [5] (fun i wr=>∃ k:Int,-1≤k∧k≤15∧i = .int .i64 k∧Hid (N/2^(64*(k+1).toNat)=M/2^(64*(k+1).toNat))∧Below w.heap.size w wr) (fun i _=>(intOf i+1).toNat)
 case atStart =>
  refine ⟨15,by omega,by omega,rfl,?_,Below.refl _ _⟩
  exact (LtW.div (LtW.of_eq (by decide) HN.out)).trans (LtW.div (LtW.of_eq (by decide) HM.out)).symm
 case round =>
  obtain ⟨k,hk0,hk,rfl,heq,hb⟩:=hrel
  by_cases h0:0≤k
  ·obtain ⟨k,rfl⟩:=Int.eq_ofNat_of_zero_le h0
   have hk16:k<16:=by omega
   have c1:wr.cell? ⟨b,o+k,none⟩=some (.int .u64 (wd N k)):=(hx.below hb k hk16).1
   have c2:wr.cell? ⟨b',o'+k,none⟩=some (.int .u64 (wd M k)):=(hy.below hb k hk16).1
   have hlt16:(k:Int)<16:=by omega
   have heq':Hid (N/2^(64*(k+1))=M/2^(64*(k+1))):=by
    have:=heq.out
    rw [show ((k:Int)+1).toNat=k+1 by omega] at this
    exact this
   have HB:=Lib.hid hb
   clear heq hb
   by_cases h1:wd N k<wd M k
   ·go_wp2
    go_quiet (fail)
    go_wp2
    go_ret
    exact ⟨ret_int (cmp_step_lt N M k heq' h1).symm,by first|exact HB.out|exact below_drewN HB.out _|exact below_drewN (below_drewN HB.out _) _⟩
   ·by_cases h2:wd M k<wd N k
    ·have h1':decide (wd N k<wd M k)=false:=decide_eq_false h1
     go_wp2
     go_quiet (fail)
     go_wp2
     go_quiet (fail)
     go_wp2
     go_ret
     exact ⟨ret_int (cmp_step_gt N M k heq' h2).symm,by first|exact HB.out|exact below_drewN HB.out _|exact below_drewN (below_drewN HB.out _) _⟩
    ·have h1':decide (wd N k<wd M k)=false:=decide_eq_false h1
     have h2':decide (wd M k<wd N k)=false:=decide_eq_false h2
     have hs:=word_step N M k heq'.out h1 h2
     have HS:=Lib.hid hs
     clear hs
     go_wp2
     go_quiet (fail)
     go_wp2
     go_quiet (fail)
     go_wp2
     go_roundw
     case rel =>
      refine ⟨(k:Int)-1,by omega,by omega,rfl,?_,by first|exact HB.out|exact below_drewN HB.out _|exact below_drewN (below_drewN HB.out _) _⟩
      have:=HS.out
      rw [show ((k:Int)-1+1).toNat=k by omega]
      exact this
     case measure=>simp [intOf] <;> omega
  ·have:k = -1:=by omega
   subst this
   have he:cmpN N M=0:=by
    have:=heq.out
    rw [show ((-1:Int)+1).toNat=0 by omega] at this
    simp at this
    subst this;exact cmpN_self N
   have HE:=Lib.hid he
   have HB:=Lib.hid hb
   clear he hb heq
   go_wp2
   go_ret
   exact ⟨ret_int HE.out.symm,by first|exact HB.out|exact below_drewN HB.out _|exact below_drewN (below_drewN HB.out _) _⟩
theorem add_c (b o b' o':Nat) (N M:Nat) (w:World) (hx:RowAt w b o N) (hy:RowAt w b' o' M) :
  Calls Tryz.prog 205 #[.pointer (some ⟨b,o,none⟩),.pointer (some ⟨b',o',none⟩)] w fun e w'=>e = .returned (.tuple #[.agg (rowW 16 (N+M)),.int .u64 (carr N M 16)])∧Below w.heap.size w w':=by
 go_enter Tryz.func205,Tryz.ntmps205
 go_wp2
 go_loopw [7,9] (fun c i wr=>∃ k:Nat,k≤16∧i = .int .i64 k∧c = .int .u64 (carr N M k)∧Below w.heap.size w wr∧Blk wr (w.heap.size+1) (rowW 16 ((N+M)%2^(64*k))) 151∧Blk wr w.heap.size (rowW 16 0) 151) (fun _ i _=>16-(intOf i).toNat)
 case atStart =>
  refine ⟨0,by omega,rfl,by rw [carr_zero],((Below.refl _ _).alloc (Nat.le_refl _) _).alloc (by simp) _,?_,?_⟩
  ·rw [show (N+M)%2^(64*0)=0 by simp [Nat.mod_one],rowW_zero16];exact Blk.new' _ _ _ (by simp)
  ·rw [rowW_zero16];exact (Blk.new _ _ _).alloc _
 case round =>
  obtain ⟨k,hk,rfl,rfl,hb,h1,h0⟩:=hrel
  by_cases hlt:k<16
  ·have c1:wr.cell? ⟨b,o+k,none⟩=some (.int .u64 (wd N k)):=(hx.below hb k hlt).1
   have c2:wr.cell? ⟨b',o'+k,none⟩=some (.int .u64 (wd M k)):=(hy.below hb k hlt).1
   have c3:wr.cell? ⟨w.heap.size+1,k,none⟩=some (.int .u64 (wd ((N+M)%2^(64*k)) k)):=h1.cell (rowW_get _ _ _ hlt)
   have c4:wr.frozen? ⟨w.heap.size+1,k,none⟩=false:=h1.frozen k
   have hk1:(k:Int)<16:=by omega
   have hk0:(0:Int)≤k:=by omega
   have hadd:=fun w=>add64_wd N M k w
   have hn1:w.heap.size+1≠b:=by have:=hx.lt;omega
   have hn2:w.heap.size+1≠b':=by have:=hy.lt;omega
   have HB:=Lib.hid hb
   have HH1:=Lib.hid h1
   have HH0:=Lib.hid h0
   clear hb h1 h0
   go_wp2
   go_region_held3 (fun w'=>w'.cell? ⟨b,o+k,none⟩=some (.int .u64 (wd N k))∧w'.cell? ⟨b',o'+k,none⟩=some (.int .u64 (wd M k))) (go_keep) (fail)
   go_wp2
   refine ⟨⟨k+1,by omega,by go_num,rfl,?_,?_,?_⟩,by simp [intOf];omega⟩
   ·exact HB.out.drew.setCell (by simp) _
   ·rw [← rowW_fill];exact HH1.out.drew.setCell_same _ _
   ·exact HH0.out.drew.setCell_other (by simp) _
  ·have hk16:k=16:=by omega
   subst hk16
   rw [rowW_mod] at h1
   have HB:=Lib.hid hb
   have HH:=Lib.hid (Blk.setRow_same h0 (rowW 16 (N+M)))
   clear hb
   go_wp2_with (first|(refine wpList_load_row rfl 151 _ rfl _ rfl 151 _ (0,0) _ h1 Tryz.underlying151 rfl (by rw [rowW_size];exact info_size) ?_)|(refine wpList_store_row rfl 151 _ _ rfl _ _ rfl rfl 151 _ h0 (by rw [rowW_size];exact info_size) (by rw [rowW_size,rowW_size]) (rowW_oneCell _ _) ?_))
   exact bodyPost_ret (v := .tuple #[.agg (rowW 16 (N+M)),.int .u64 (carr N M 16)]) (by exact results_row_tmp (p:=4) (u:=5) (ty:=151) rfl _ _ _ _ _ _ rfl HH.out Tryz.underlying151 rfl (by rw [rowW_size];exact info_size)) rfl ⟨rfl,Below_setRow HB.out (by omega) _⟩
theorem sub_c (b o b' o':Nat) (N M:Nat) (hle:M≤N) (w:World) (hx:RowAt w b o N) (hy:RowAt w b' o' M) :
  Calls Tryz.prog 207 #[.pointer (some ⟨b,o,none⟩),.pointer (some ⟨b',o',none⟩)] w fun e w'=>e = .returned (.agg (rowW 16 (N-M)))∧Below w.heap.size w w':=by
 go_enter Tryz.func207,Tryz.ntmps207
 go_wp2
 go_loopw [6,8] (fun c i wr=>∃ k:Nat,k≤16∧i = .int .i64 k∧c = .int .u64 (borr N M k)∧Below w.heap.size w wr∧Blk wr (w.heap.size+1) (rowW 16 ((N-M)%2^(64*k))) 151∧Blk wr w.heap.size (rowW 16 0) 151) (fun _ i _=>16-(intOf i).toNat)
 case atStart =>
  refine ⟨0,by omega,rfl,by rw [borr_zero],((Below.refl _ _).alloc (Nat.le_refl _) _).alloc (by simp) _,?_,?_⟩
  ·rw [show (N-M)%2^(64*0)=0 by simp [Nat.mod_one],rowW_zero16];exact Blk.new' _ _ _ (by simp)
  ·rw [rowW_zero16];exact (Blk.new _ _ _).alloc _
 case round =>
  obtain ⟨k,hk,rfl,rfl,hb,h1,h0⟩:=hrel
  by_cases hlt:k<16
  ·have c1:wr.cell? ⟨b,o+k,none⟩=some (.int .u64 (wd N k)):=(hx.below hb k hlt).1
   have c2:wr.cell? ⟨b',o'+k,none⟩=some (.int .u64 (wd M k)):=(hy.below hb k hlt).1
   have c3:wr.cell? ⟨w.heap.size+1,k,none⟩=some (.int .u64 (wd ((N-M)%2^(64*k)) k)):=h1.cell (rowW_get _ _ _ hlt)
   have c4:wr.frozen? ⟨w.heap.size+1,k,none⟩=false:=h1.frozen k
   have hk1:(k:Int)<16:=by omega
   have hk0:(0:Int)≤k:=by omega
   have hadd:=fun w=>sub64_wd N M k hle w
   have hn1:w.heap.size+1≠b:=by have:=hx.lt;omega
   have hn2:w.heap.size+1≠b':=by have:=hy.lt;omega
   have HB:=Lib.hid hb
   have HH1:=Lib.hid h1
   have HH0:=Lib.hid h0
   clear hb h1 h0
   go_wp2
   go_region_held3 (fun w'=>w'.cell? ⟨b,o+k,none⟩=some (.int .u64 (wd N k))∧w'.cell? ⟨b',o'+k,none⟩=some (.int .u64 (wd M k))) (go_keep) (fail)
   go_wp2
   refine ⟨⟨k+1,by omega,by go_num,rfl,?_,?_,?_⟩,by simp [intOf];omega⟩
   ·exact HB.out.drew.setCell (by simp) _
   ·rw [← rowW_fill];exact HH1.out.drew.setCell_same _ _
   ·exact HH0.out.drew.setCell_other (by simp) _
  ·have hk16:k=16:=by omega
   subst hk16
   rw [rowW_mod] at h1
   have HB:=Lib.hid hb
   have HH:=Lib.hid (Blk.setRow_same h0 (rowW 16 (N-M)))
   clear hb
   go_wp2_with (first|(refine wpList_load_row rfl 151 _ rfl _ rfl 151 _ (0,0) _ h1 Tryz.underlying151 rfl (by rw [rowW_size];exact info_size) ?_)|(refine wpList_store_row rfl 151 _ _ rfl _ _ rfl rfl 151 _ h0 (by rw [rowW_size];exact info_size) (by rw [rowW_size,rowW_size]) (rowW_oneCell _ _) ?_))
   exact bodyPost_ret (v := .agg (rowW 16 (N-M))) (by exact results_row (p:=4) (ty:=151) rfl _ _ _ _ _ _ rfl HH.out Tryz.underlying151 rfl (by rw [rowW_size];exact info_size)) rfl ⟨rfl,Below_setRow HB.out (by omega) _⟩
end Go.Proofs.YtechbdnhalmobaaGreatDoor
namespace Go.Proofs.YtechbdnhalmobaaGreatDoor
open Go.RowKit Go.Lib

namespace Mu
theorem maskN (a:Nat) (ha:a<18446744073709551616):bits .and .u64 (a:Int) 4294967295=((a%4294967296:Nat):Int):=by
 have h:=bits_and_u64_nat a 4294967295 ha (by omega)
 have e:a &&& 4294967295=a%4294967296:=Nat.and_two_pow_sub_one_eq_mod a 32
 rw [e] at h
 exact h
theorem divN (a:Nat):(a:Int)/4294967296=((a/4294967296:Nat):Int):=by omega
theorem mulN (a b:Nat):(a:Int)*(b:Int)=((a*b:Nat):Int):=(Int.natCast_mul a b).symm
theorem addN (a b:Nat):(a:Int)+(b:Int)=((a+b:Nat):Int):=(Int.natCast_add a b).symm
theorem wrapN (a:Nat) (ha:a<18446744073709551616):IntKind.u64.wrap (a:Int)=(a:Int):=by rw [IntKind.wrap_u64];omega
theorem wrapM (a:Nat):IntKind.u64.wrap (a:Int)=((a%18446744073709551616:Nat):Int):=by rw [IntKind.wrap_u64];omega
end Mu

theorem mul64_c (x y:Nat) (hx:x<18446744073709551616) (hy:y<18446744073709551616) (w:World) :
  Calls Tryz.prog 201 #[.int .u64 x,.int .u64 y] w fun e w'=>e = .returned (.tuple #[.int .u64 ((x*y/18446744073709551616:Nat):Int),.int .u64 ((x*y%18446744073709551616:Nat):Int)])∧w=w':=by
 obtain ⟨bd,bt,bw,hhi⟩:=Lib.mul64_hi x y hx hy
 have ba:=Lib.half_mul_le (a:=x/4294967296) (b:=y/4294967296) (by omega) (by omega)
 have bb:=Lib.half_mul_le (a:=x/4294967296) (b:=y%4294967296) (by omega) (by omega)
 have bc:=Lib.half_mul_le (a:=x%4294967296) (b:=y/4294967296) (by omega) (by omega)
 have ba':x/4294967296*(y/4294967296)<18446744073709551616:=by omega
 have bb':x/4294967296*(y%4294967296)<18446744073709551616:=by omega
 have bc':x%4294967296*(y/4294967296)<18446744073709551616:=by omega
 have bh1:x/4294967296*(y/4294967296)+(x/4294967296*(y%4294967296)+x%4294967296*(y%4294967296)/4294967296)/4294967296<18446744073709551616:=by omega
 have bh:x/4294967296*(y/4294967296)+(x/4294967296*(y%4294967296)+x%4294967296*(y%4294967296)/4294967296)/4294967296+((x/4294967296*(y%4294967296)+x%4294967296*(y%4294967296)/4294967296)%4294967296+x%4294967296*(y/4294967296))/4294967296<18446744073709551616:=by omega
 go_enter Tryz.func201,Tryz.ntmps201
 go_wp2
 simp only [Mu.maskN x hx,Mu.maskN y hy,Mu.divN,Mu.mulN,Mu.addN,Mu.wrapN _ bd,Mu.wrapN _ bb',Mu.wrapN _ bt,Mu.maskN _ bt,Mu.wrapN _ bc',Mu.wrapN _ bw,Mu.wrapN _ ba',Mu.wrapN _ bh1,Mu.wrapN _ bh,Mu.wrapM (x*y)]
 rw [hhi]
 go_ret2
 exact ⟨rfl,rfl⟩
end Go.Proofs.YtechbdnhalmobaaGreatDoor
namespace Go.Proofs.YtechbdnhalmobaaGreatDoor
open Go.RowKit

/-! ### Rules -/
theorem info_word:(Tryz.prog.info? 53).map (·.size)=some 1:=by kernel_rfl
@[go_sem] theorem equalIn_size (w : World) (N M : Nat) : (Op.equalIn 10000 151 (.agg (rowW 16 N)) (.agg (rowW 16 M))).run Tryz.prog w = .ok (eqW N M) w :=
  run_equalIn_row 9998 151 53 16 N M w Tryz.underlying151 Tryz.underlying53 info_word
theorem cellsI_lit:cellsI false false 0=#[.bool false,.bool false,.int .u64 0,.int .u64 0,.int .u64 0,.int .u64 0,.int .u64 0,.int .u64 0,.int .u64 0,.int .u64 0,.int .u64 0,.int .u64 0,.int .u64 0,.int .u64 0,.int .u64 0,.int .u64 0,.int .u64 0,.int .u64 0]:=by
 rw [cellsI,rowW_zero16];rfl
@[go_sem ↓] theorem zero_Int (w : World) : (zeroValue 153).run Tryz.prog w = .ok (.agg (cellsI false false 0)) w := by
  rw [cellsI_lit];exact Tryz.zeroValue153 w
@[go_sem ↓] theorem zero_size (w : World) : (zeroValue 151).run Tryz.prog w = .ok (.agg (rowW 16 0)) w := by
  rw [rowW_zero16];exact Tryz.zeroValue151 w
theorem bits_c0 (b o:Nat) (w:World) (hN:0<W16) (hx:RowAt w b o 0) :
  Calls Tryz.prog 263 #[.pointer (some ⟨b,o,none⟩)] w fun e w'=>e = .returned (.int .i64 (bl 0))∧w=w':=by
 have HN:=Lib.hid hN
 clear hN
 go_enter Tryz.func263,Tryz.ntmps263
 go_wp2_with (go_at_call 200;refine (parts_c _ _ _ _ HN.out hx).mono ?_;rintro e w' ⟨rfl,rfl⟩;rw [show np 0=0 from rfl])
 go_ret
 exact ⟨rfl,rfl⟩
theorem bits_c (b o N:Nat) (w:World) (hN:N<W16) (hx:RowAt w b o N) :
  Calls Tryz.prog 263 #[.pointer (some ⟨b,o,none⟩)] w fun e w'=>e = .returned (.int .i64 (bl N))∧w=w':=by
 have HN:=Lib.hid hN
 clear hN
 by_cases h0:N=0
 ·subst h0;exact bits_c0 b o w HN.out hx
 ·obtain ⟨n,hn⟩:∃ n,np N=n+1:=⟨np N-1,by have:np N≠0:=fun h=>h0 ((np_zero_iff N).1 h);omega⟩
  have hlt:N<2^(64*(n+1)):=by rw [← hn];exact np_lt N
  have hw:wdn N n≠0:=by
   intro h
   have:=(np_le_iff N n).2 (lt_pow_of_wdn_zero N n hlt h)
   omega
  have hn16:n<16:=by have:=(np_le_iff N 16).2 (LtW.of16 HN.out);omega
  have hbl:=bl_top N n hlt hw
  have hc:w.cell? ⟨b,o+n,none⟩=some (.int .u64 (wd N n)):=(hx n hn16).1
  have hbs:bl (wdn N n)≤64:=(bl_le_iff _ _).2 (wdn_lt N n)
  have h16:(n:Int)<16:=by omega
  have hne:((n:Int)+1==0)=false:=by simp;omega
  have hbs':(bl (wd N n).toNat:Int)≤64:=by rw [show (wd N n).toNat=wdn N n by unfold wd;omega];omega
  have HB:=Lib.hid hbl
  have HW:=Lib.hid hw
  have HL:=Lib.hid hlt
  have HNP:=Lib.hid hn
  clear hbl hw hlt hn hbs h0
  go_enter Tryz.func263,Tryz.ntmps263
  go_wp2_with (first|(go_at_call 200;refine (parts_c _ _ _ _ HN.out hx).mono ?_;rintro e w' ⟨rfl,rfl⟩;rw [HNP.out,Int.natCast_succ])|(go_at_call 240;refine (len64_c _ _ (wd_nonneg _ _) (wd_lt _ _)).mono ?_;rintro e w' ⟨rfl,rfl⟩))
  go_ret
  exact ⟨ret_int (by rw [HB.out];simp [wd]),rfl⟩
theorem tooGreat_c (w:World) :
  Calls Tryz.prog 199 #[] w fun e w'=>e = .returned (.agg (cellsI false true 0))∧Below w.heap.size w w':=by
 go_enter Tryz.func199,Tryz.ntmps199
 go_wp2
 exact bodyPost_row 18 (cellsI false true 0) rfl rfl rfl Tryz.underlying153 rfl info_Int (by go_simp) ⟨rfl,(Below.refl _ _).alloc (Nat.le_refl _) _⟩
theorem made_c (n:Bool) (N:Nat) (hN:N<W16) (w:World) :
  Calls Tryz.prog 203 #[.bool n,.agg (rowW 16 N)] w fun e w'=>e = .returned (.agg (WI.of (sgn n N)).cells)∧Below w.heap.size w w':=by
 have HN:=Lib.hid hN
 clear hN
 by_cases hb:bl N≤1023
 ·have E:=Lib.hid (WI.of_sgn (n:=n) hb)
  have hle:(bl N:Int)≤1023:=by omega
  cases n with
  | false =>
   go_enter Tryz.func203,Tryz.ntmps203
   go_wp2_with (first|(go_at_call 263;refine (bits_c _ _ _ _ HN.out (.of_blk (Blk.new _ _ _ |>.alloc _))).mono ?_;rintro e w' ⟨rfl,rfl⟩))
   refine still_tail 8 (by kernel_rfl) (by kernel_rfl) ?_
   simp only [List.take_succ_cons,List.take_zero,List.drop_succ_cons,List.drop_zero]
   repeat still_step
   try refine wpStill_nil ?_
   go_wp2
   exact bodyPost_row 18 (cellsI false false N) rfl rfl rfl Tryz.underlying153 rfl info_Int (by go_simp) ⟨by rw [E.out];rfl,(((Below.refl _ _).alloc (Nat.le_refl _) _).alloc (by simp) _).drew⟩
  | true =>
   have hq:=eqW_zero N HN.out
   have HQ:=Lib.hid hq
   clear hq
   by_cases h0:N=0
   ·have hq:eqW N 0=true:=by rw [HQ.out];simp [h0]
    have H0:=Lib.hid h0
    clear h0
    go_enter Tryz.func203,Tryz.ntmps203
    go_wp2_with (first|(go_at_call 263;refine (bits_c _ _ _ _ HN.out (.of_blk (Blk.new _ _ _ |>.alloc _))).mono ?_;rintro e w' ⟨rfl,rfl⟩))
    refine still_tail 8 (by kernel_rfl) (by kernel_rfl) ?_
    simp only [List.take_succ_cons,List.take_zero,List.drop_succ_cons,List.drop_zero]
    repeat still_step
    try refine wpStill_nil ?_
    go_wp2
    exact bodyPost_row 18 (cellsI false false N) rfl rfl rfl Tryz.underlying153 rfl info_Int (by go_simp) ⟨by rw [E.out,H0.out];rfl,(((Below.refl _ _).alloc (Nat.le_refl _) _).alloc (by simp) _).drew⟩
   ·have hq:eqW N 0=false:=by rw [HQ.out];simp [h0]
    have H0:=Lib.hid h0
    clear h0
    go_enter Tryz.func203,Tryz.ntmps203
    go_wp2_with (first|(go_at_call 263;refine (bits_c _ _ _ _ HN.out (.of_blk (Blk.new _ _ _ |>.alloc _))).mono ?_;rintro e w' ⟨rfl,rfl⟩))
    refine still_tail 8 (by kernel_rfl) (by kernel_rfl) ?_
    simp only [List.take_succ_cons,List.take_zero,List.drop_succ_cons,List.drop_zero]
    repeat still_step
    try refine wpStill_nil ?_
    go_wp2
    exact bodyPost_row 18 (cellsI true false N) rfl rfl rfl Tryz.underlying153 rfl info_Int (by go_simp) ⟨by rw [E.out];simp [H0.out],(((Below.refl _ _).alloc (Nat.le_refl _) _).alloc (by simp) _).drew⟩
 ·have E:=Lib.hid (WI.of_sgn_over (n:=n) (N:=N) (by omega))
  have hle:(1023:Int)<bl N:=by omega
  go_enter Tryz.func203,Tryz.ntmps203
  go_wp2_with (first|(go_at_call 263;refine (bits_c _ _ _ _ HN.out (.of_blk (Blk.new _ _ _ |>.alloc _))).mono ?_;rintro e w' ⟨rfl,rfl⟩)|(go_at_call 199;refine (tooGreat_c _).mono ?_;rintro e w1 ⟨rfl,hb1⟩;have z_w1:=hb1.size;(try simp at z_w1);obtain ⟨yw1aa,cw1aa,fw1aa,rw1aa,tw1aa,pw1aa⟩:=bq hb1 (w.heap.size);obtain ⟨yw1ab,cw1ab,fw1ab,rw1ab,tw1ab,pw1ab⟩:=bq hb1 (w.heap.size+1)))
  exact bodyPost_row 18 (cellsI false true 0) rfl rfl rfl Tryz.underlying153 rfl info_Int (by go_simp) ⟨by rw [E.out],below_by⟩
end Go.Proofs.YtechbdnhalmobaaGreatDoor
namespace Go.Proofs.YtechbdnhalmobaaGreatDoor
open Go.RowKit

theorem WI.add_over (x y:WI) (h:x.ov=true∨y.ov=true):x.add y=WI.over:=by
 unfold WI.add;unfold WI.ov at h
 cases hx:x.v <;> cases hy:y.v <;> simp_all
theorem WI.some_of_ov {x:WI} (h:x.ov=false):x.v=some (sgn x.ng x.sz):=by
 unfold WI.ov at h;unfold WI.ng WI.sz sgn
 cases hx:x.v with
 | none=>rw [hx] at h;cases h
 | some z=>simp;by_cases hz:z<0 <;> simp [hz] <;> omega
theorem WI.add_some {x y:WI} (hx:x.ov=false) (hy:y.ov=false):x.add y=WI.of (sgn x.ng x.sz+sgn y.ng y.sz):=by
 unfold WI.add;rw [WI.some_of_ov hx,WI.some_of_ov hy]
theorem sgn_add_same (n:Bool) (N M:Nat):sgn n N+sgn n M=sgn n (N+M):=by unfold sgn;cases n <;> simp <;> omega
theorem sgn_add_ge (n m:Bool) (N M:Nat) (h:n≠m) (hle:M≤N):sgn n N+sgn m M=sgn n (N-M):=by
 unfold sgn;cases n <;> cases m <;> simp at h ⊢ <;> omega
theorem sgn_add_lt (n m:Bool) (N M:Nat) (h:n≠m) (hlt:N<M):sgn n N+sgn m M=sgn m (M-N):=by
 unfold sgn;cases n <;> cases m <;> simp at h ⊢ <;> omega
theorem W16_two:lim+lim≤W16:=by
 have h3:∀ n m,n=m+1→(2:Nat)^m+2^m=2^n:=fun n m h=>by subst h;rw [Nat.pow_succ];omega
 have h4:∀ m k,m=1023→k=16→lim+lim=W16:=fun m k hm hk=>by
  rw [lim_eq m hm,W16_eq k hk,h3 (64*k) m (by omega)]
 exact Nat.le_of_eq (h4 1023 16 rfl rfl)
theorem carr_small {N M:Nat} (h:N+M<W16):carr N M 16=0:=by
 unfold carr
 have e:∀ k,k=16→N%2^(64*k)+M%2^(64*k)<2^(64*k):=fun k hk=>by
  have:=W16_lt h hk
  rw [Nat.mod_eq_of_lt (by omega),Nat.mod_eq_of_lt (by omega)];exact this
 have:=Nat.div_eq_of_lt (e 16 rfl)
 rw [this];rfl
theorem row_one (N:Nat) (h:N<18446744073709551616):(rowW 16 0).setIfInBounds 0 (.int .u64 (N:Int))=rowW 16 N:=by
 rw [rowW_set 16 0 0 N h]
 congr 1
 unfold setw;simp [wdn_zero]
theorem small_lim {N:Nat} (h:N<18446744073709551616):N<lim:=Nat.lt_of_lt_of_le h (by
 have:∀ n,64≤n→18446744073709551616≤2^n:=fun n hn=>pow2_le 64 n hn
 unfold lim;exact this 1023 (by decide))
theorem bl_small {N:Nat} (h:N<18446744073709551616):bl N≤1023:=(lim_bl N).2 (small_lim h)
theorem of_pos (N:Nat) (h:N≤9223372036854775807) (w:World) :
  Calls Tryz.prog 86 #[.int .i64 (N:Int)] w fun e w'=>e = .returned (.agg (WI.of (N:Int)).cells)∧Below w.heap.size w w':=by
 have E:=Lib.hid (WI.of_sgn (n:=false) (bl_small (N:=N) (by omega)))
 have hu:IntKind.u64.wrap (N:Int)=N:=by rw [IntKind.wrap_u64];omega
 have hs:=row_one N (by omega)
 have hz:¬ (N:Int)<0:=by omega
 clear h
 go_enter Tryz.func86,Tryz.ntmps86
 go_wp2
 exact bodyPost_row 18 (cellsI false false N) rfl rfl rfl Tryz.underlying153 rfl info_Int (by go_simp) ⟨by have:=E.out;simp only [sgn] at this;rw [show (WI.of (N:Int)).cells=_ from this];rfl,(Below.refl _ _).alloc (Nat.le_refl _) _⟩
theorem of_neg (N:Nat) (h0:0<N) (h:N≤9223372036854775808) (w:World) :
  Calls Tryz.prog 86 #[.int .i64 (-(N:Int))] w fun e w'=>e = .returned (.agg (WI.of (-(N:Int))).cells)∧Below w.heap.size w w':=by
 have E:=Lib.hid (WI.of_sgn (n:=true) (bl_small (N:=N) (by omega)))
 have hu:IntKind.u64.wrap (-IntKind.u64.wrap (-(N:Int)))=N:=by rw [IntKind.wrap_u64,IntKind.wrap_u64];omega
 have hs:=row_one N (by omega)
 have hz : -(N:Int)<0:=by omega
 have H0:=Lib.hid h0
 clear h h0
 go_enter Tryz.func86,Tryz.ntmps86
 go_wp2
 exact bodyPost_row 18 (cellsI true false N) rfl rfl rfl Tryz.underlying153 rfl info_Int (by go_simp) ⟨by have:=E.out;simp only [sgn,if_true] at this;rw [this,show (true&&decide (N≠0))=true by have:=H0.out;simp;omega],(Below.refl _ _).alloc (Nat.le_refl _) _⟩
theorem of_c (z:Int) (h1 : -9223372036854775808≤z) (h2:z≤9223372036854775807) (w:World) :
  Calls Tryz.prog 86 #[.int .i64 z] w fun e w'=>e = .returned (.agg (WI.of z).cells)∧Below w.heap.size w w':=by
 by_cases hz:z<0
 ·obtain ⟨N,rfl⟩:∃ N:Nat,z = -(N:Int):=⟨z.natAbs,by omega⟩
  exact of_neg N (by omega) (by omega) w
 ·obtain ⟨N,rfl⟩:∃ N:Nat,z=(N:Int):=⟨z.natAbs,by omega⟩
  exact of_pos N (by omega) w
theorem add_over (x y:WI) (h:x.ov=true∨y.ov=true) (w:World) :
  Calls Tryz.prog 155 #[.agg x.cells,.agg y.cells] w fun e w'=>e = .returned (.agg (x.add y).cells)∧Below w.heap.size w w':=by
 rw [WI.add_over x y h]
 cases hx:x.ov with
 | true =>
  clear h
  go_enter Tryz.func155,Tryz.ntmps155
  go_wp2_with fail
  refine (tooGreat_c _).mono ?_;rintro e w1 ⟨rfl,hb1⟩;have z_w1:=hb1.size;(try simp at z_w1);obtain ⟨yw1aa,cw1aa,fw1aa,rw1aa,tw1aa,pw1aa⟩:=bq hb1 (w.heap.size);obtain ⟨yw1ab,cw1ab,fw1ab,rw1ab,tw1ab,pw1ab⟩:=bq hb1 (w.heap.size+1);obtain ⟨yw1ac,cw1ac,fw1ac,rw1ac,tw1ac,pw1ac⟩:=bq hb1 (w.heap.size+1+1)
  go_wp2
  exact bodyPost_row 18 (cellsI false true 0) rfl rfl rfl Tryz.underlying153 rfl info_Int (by go_simp) ⟨rfl,below_by⟩
 | false =>
  have hy:y.ov=true:=by rcases h with h|h <;> simp_all
  clear h
  go_enter Tryz.func155,Tryz.ntmps155
  go_wp2_with fail
  refine (tooGreat_c _).mono ?_;rintro e w1 ⟨rfl,hb1⟩;have z_w1:=hb1.size;(try simp at z_w1);obtain ⟨yw1aa,cw1aa,fw1aa,rw1aa,tw1aa,pw1aa⟩:=bq hb1 (w.heap.size);obtain ⟨yw1ab,cw1ab,fw1ab,rw1ab,tw1ab,pw1ab⟩:=bq hb1 (w.heap.size+1);obtain ⟨yw1ac,cw1ac,fw1ac,rw1ac,tw1ac,pw1ac⟩:=bq hb1 (w.heap.size+1+1)
  go_wp2
  exact bodyPost_row 18 (cellsI false true 0) rfl rfl rfl Tryz.underlying153 rfl info_Int (by go_simp) ⟨rfl,below_by⟩
theorem add_same (x y:WI) (hx:x.ov=false) (hy:y.ov=false) (hn:y.ng=x.ng) (w:World) :
  Calls Tryz.prog 155 #[.agg x.cells,.agg y.cells] w fun e w'=>e = .returned (.agg (x.add y).cells)∧Below w.heap.size w w':=by
 have hlt:x.sz+y.sz<W16:=by have:=x.sz_lt;have:=y.sz_lt;have:=W16_two;omega
 rw [WI.add_some hx hy,hn,sgn_add_same]
 have hc:=carr_small hlt
 have HLT:=Lib.hid hlt
 clear hlt
 go_enter Tryz.func155,Tryz.ntmps155
 go_wp2_with fail
 refine (add_c _ _ _ _ x.sz y.sz _ (.of_wi (((Blk.new _ _ _).alloc _).alloc _)) (.of_wi ((Blk.new' _ _ _ (by simp)).alloc _))).mono ?_;rintro e w1 ⟨rfl,hb1⟩;rw [hc];have z_w1:=hb1.size;(try simp at z_w1);obtain ⟨yw1aa,cw1aa,fw1aa,rw1aa,tw1aa,pw1aa⟩:=bq hb1 (w.heap.size);obtain ⟨yw1ab,cw1ab,fw1ab,rw1ab,tw1ab,pw1ab⟩:=bq hb1 (w.heap.size+1);obtain ⟨yw1ac,cw1ac,fw1ac,rw1ac,tw1ac,pw1ac⟩:=bq hb1 (w.heap.size+1+1)
 go_wp2_with fail
 refine (made_c _ _ HLT.out _).mono ?_;rintro e w2 ⟨rfl,hb2⟩;have z_w2:=hb2.size;(try simp at z_w2);obtain ⟨yw2aa,cw2aa,fw2aa,rw2aa,tw2aa,pw2aa⟩:=bq hb2 (w.heap.size);obtain ⟨yw2ab,cw2ab,fw2ab,rw2ab,tw2ab,pw2ab⟩:=bq hb2 (w.heap.size+1);obtain ⟨yw2ac,cw2ac,fw2ac,rw2ac,tw2ac,pw2ac⟩:=bq hb2 (w.heap.size+1+1);obtain ⟨yw2ba,cw2ba,fw2ba,rw2ba,tw2ba,pw2ba⟩:=bq hb2 (w1.heap.size)
 go_wp2
 exact bodyPost_row 18 (WI.of (sgn x.ng (x.sz+y.sz))).cells rfl rfl rfl Tryz.underlying153 rfl info_Int (by go_simp) ⟨rfl,below_by⟩
theorem add_ge (x y:WI) (hx:x.ov=false) (hy:y.ov=false) (hn:y.ng≠x.ng) (hle:y.sz≤x.sz) (w:World) :
  Calls Tryz.prog 155 #[.agg x.cells,.agg y.cells] w fun e w'=>e = .returned (.agg (x.add y).cells)∧Below w.heap.size w w':=by
 have hlt:x.sz-y.sz<W16:=by have:=x.sz_lt';omega
 have hcmp:(0:Int)≤cmpN x.sz y.sz:=by unfold cmpN;split <;> (try split) <;> omega
 rw [WI.add_some hx hy,sgn_add_ge _ _ _ _ (Ne.symm hn) hle]
 have HLT:=Lib.hid hlt
 have HLE:=Lib.hid hle
 have hne:(x.ng==y.ng)=false:=by rw [beq_eq_false_iff_ne];exact Ne.symm hn
 clear hlt hle hn
 go_enter Tryz.func155,Tryz.ntmps155
 go_wp2_with fail
 refine (cmp_c _ _ _ _ x.sz y.sz _ x.sz_lt' y.sz_lt' (.of_wi (((Blk.new _ _ _).alloc _).alloc _)) (.of_wi ((Blk.new' _ _ _ (by simp)).alloc _))).mono ?_;rintro e w1 ⟨rfl,hb1⟩;have z_w1:=hb1.size;(try simp at z_w1);obtain ⟨yw1aa,cw1aa,fw1aa,rw1aa,tw1aa,pw1aa⟩:=bq hb1 (w.heap.size);obtain ⟨yw1ab,cw1ab,fw1ab,rw1ab,tw1ab,pw1ab⟩:=bq hb1 (w.heap.size+1);obtain ⟨yw1ac,cw1ac,fw1ac,rw1ac,tw1ac,pw1ac⟩:=bq hb1 (w.heap.size+1+1)
 go_wp2_with fail
 go_region_held3 (fun w'=>w'.cell? ⟨w.heap.size,0,none⟩=some (.bool x.ng)) (go_simp)
  (first
   | (go_at_call 207;refine (sub_c _ _ _ _ x.sz y.sz HLE.out _ (.of_wi (Blk.keep (((Blk.new w _ _).alloc _).alloc _) hb1).drew) (.of_wi (Blk.keep ((Blk.new' _ _ _ (by simp)).alloc _) hb1).drew)).mono ?_;rintro e w2 ⟨rfl,hb2⟩;have z_w2:=hb2.size;(try simp at z_w2);obtain ⟨yw2aa,cw2aa,fw2aa,rw2aa,tw2aa,pw2aa⟩:=bq hb2 (w.heap.size);obtain ⟨yw2ab,cw2ab,fw2ab,rw2ab,tw2ab,pw2ab⟩:=bq hb2 (w.heap.size+1);obtain ⟨yw2ac,cw2ac,fw2ac,rw2ac,tw2ac,pw2ac⟩:=bq hb2 (w.heap.size+1+1))
   | (go_at_call 203;refine (made_c _ _ HLT.out _).mono ?_;rintro e w3 ⟨rfl,hb3⟩;have z_w3:=hb3.size;(try simp at z_w3);obtain ⟨yw3aa,cw3aa,fw3aa,rw3aa,tw3aa,pw3aa⟩:=bq hb3 (w.heap.size);obtain ⟨yw3ab,cw3ab,fw3ab,rw3ab,tw3ab,pw3ab⟩:=bq hb3 (w.heap.size+1);obtain ⟨yw3ac,cw3ac,fw3ac,rw3ac,tw3ac,pw3ac⟩:=bq hb3 (w.heap.size+1+1)))
 go_wp2
 exact bodyPost_row 18 (WI.of (sgn x.ng (x.sz-y.sz))).cells rfl rfl rfl Tryz.underlying153 rfl info_Int (by go_simp) ⟨rfl,below_by⟩
theorem add_lt (x y:WI) (hx:x.ov=false) (hy:y.ov=false) (hn:y.ng≠x.ng) (hlt0:x.sz<y.sz) (w:World) :
  Calls Tryz.prog 155 #[.agg x.cells,.agg y.cells] w fun e w'=>e = .returned (.agg (x.add y).cells)∧Below w.heap.size w w':=by
 have hlt:y.sz-x.sz<W16:=by have:=y.sz_lt';omega
 have hle:x.sz≤y.sz:=by omega
 have hcmp:cmpN x.sz y.sz<(0:Int):=by unfold cmpN;split <;> (try split) <;> omega
 rw [WI.add_some hx hy,sgn_add_lt _ _ _ _ (Ne.symm hn) hlt0]
 have HLT:=Lib.hid hlt
 have HLE:=Lib.hid hle
 have hne:(x.ng==y.ng)=false:=by rw [beq_eq_false_iff_ne];exact Ne.symm hn
 clear hlt hle hn hlt0
 go_enter Tryz.func155,Tryz.ntmps155
 go_wp2_with fail
 refine (cmp_c _ _ _ _ x.sz y.sz _ x.sz_lt' y.sz_lt' (.of_wi (((Blk.new _ _ _).alloc _).alloc _)) (.of_wi ((Blk.new' _ _ _ (by simp)).alloc _))).mono ?_;rintro e w1 ⟨rfl,hb1⟩;have z_w1:=hb1.size;(try simp at z_w1);obtain ⟨yw1aa,cw1aa,fw1aa,rw1aa,tw1aa,pw1aa⟩:=bq hb1 (w.heap.size);obtain ⟨yw1ab,cw1ab,fw1ab,rw1ab,tw1ab,pw1ab⟩:=bq hb1 (w.heap.size+1);obtain ⟨yw1ac,cw1ac,fw1ac,rw1ac,tw1ac,pw1ac⟩:=bq hb1 (w.heap.size+1+1)
 go_wp2_with fail
 go_region_held3 (fun w'=>w'.cell? ⟨w.heap.size+1,0,none⟩=some (.bool y.ng)) (go_simp)
  (first
   | (go_at_call 207;refine (sub_c _ _ _ _ y.sz x.sz HLE.out _ (.of_wi (Blk.keep ((Blk.new' _ _ _ (by simp)).alloc _) hb1).drew) (.of_wi (Blk.keep (((Blk.new w _ _).alloc _).alloc _) hb1).drew)).mono ?_;rintro e w2 ⟨rfl,hb2⟩;have z_w2:=hb2.size;(try simp at z_w2);obtain ⟨yw2aa,cw2aa,fw2aa,rw2aa,tw2aa,pw2aa⟩:=bq hb2 (w.heap.size);obtain ⟨yw2ab,cw2ab,fw2ab,rw2ab,tw2ab,pw2ab⟩:=bq hb2 (w.heap.size+1);obtain ⟨yw2ac,cw2ac,fw2ac,rw2ac,tw2ac,pw2ac⟩:=bq hb2 (w.heap.size+1+1))
   | (go_at_call 203;refine (made_c _ _ HLT.out _).mono ?_;rintro e w3 ⟨rfl,hb3⟩;have z_w3:=hb3.size;(try simp at z_w3);obtain ⟨yw3aa,cw3aa,fw3aa,rw3aa,tw3aa,pw3aa⟩:=bq hb3 (w.heap.size);obtain ⟨yw3ab,cw3ab,fw3ab,rw3ab,tw3ab,pw3ab⟩:=bq hb3 (w.heap.size+1);obtain ⟨yw3ac,cw3ac,fw3ac,rw3ac,tw3ac,pw3ac⟩:=bq hb3 (w.heap.size+1+1)))
 go_wp2
 exact bodyPost_row 18 (WI.of (sgn y.ng (y.sz-x.sz))).cells rfl rfl rfl Tryz.underlying153 rfl info_Int (by go_simp) ⟨rfl,below_by⟩
theorem add_I (x y:WI) (w:World) :
  Calls Tryz.prog 155 #[.agg x.cells,.agg y.cells] w fun e w'=>e = .returned (.agg (x.add y).cells)∧Below w.heap.size w w':=by
 cases hx:x.ov with
 | true=>exact add_over x y (.inl hx) w
 | false =>
  cases hy:y.ov with
  | true=>exact add_over x y (.inr hy) w
  | false =>
   by_cases hn:y.ng=x.ng
   ·exact add_same x y hx hy hn w
   ·by_cases hle:y.sz≤x.sz
    ·exact add_ge x y hx hy hn hle w
    ·exact add_lt x y hx hy hn (by omega) w
theorem WI.neg_over (x:WI) (h:x.ov=true):x.neg=x:=by
 apply WI.ext';unfold WI.neg;unfold WI.ov at h
 cases hx:x.v with
 | none=>rfl
 | some z=>rw [hx] at h;cases h
theorem WI.neg_some {x:WI} (hx:x.ov=false):x.neg=WI.of (sgn (!x.ng) x.sz):=by
 unfold WI.neg;rw [WI.some_of_ov hx]
 simp only;congr 1
 cases x.ng <;> simp [sgn]
theorem neg_I (x:WI) (w:World) :
  Calls Tryz.prog 156 #[.agg x.cells] w fun e w'=>e = .returned (.agg x.neg.cells)∧Below w.heap.size w w':=by
 cases hx:x.ov with
 | true =>
  rw [WI.neg_over x hx]
  go_enter Tryz.func156,Tryz.ntmps156
  go_wp2_with fail
  exact bodyPost_row 18 x.cells rfl rfl rfl Tryz.underlying153 rfl info_Int (by go_simp) ⟨rfl,below_by⟩
 | false =>
  rw [WI.neg_some hx]
  have HLT:=Lib.hid x.sz_lt'
  go_enter Tryz.func156,Tryz.ntmps156
  go_wp2_with fail
  refine (made_c _ _ HLT.out _).mono ?_;rintro e w1 ⟨rfl,hb1⟩;have z_w1:=hb1.size;(try simp at z_w1);obtain ⟨yw1aa,cw1aa,fw1aa,rw1aa,tw1aa,pw1aa⟩:=bq hb1 (w.heap.size);obtain ⟨yw1ab,cw1ab,fw1ab,rw1ab,tw1ab,pw1ab⟩:=bq hb1 (w.heap.size+1)
  go_wp2
  exact bodyPost_row 18 (WI.of (sgn (!x.ng) x.sz)).cells rfl rfl rfl Tryz.underlying153 rfl info_Int (by go_simp) ⟨rfl,below_by⟩
theorem sub_I (x y:WI) (w:World) :
  Calls Tryz.prog 85 #[.agg x.cells,.agg y.cells] w fun e w'=>e = .returned (.agg (x.sub y).cells)∧Below w.heap.size w w':=by
 go_enter Tryz.func85,Tryz.ntmps85
 go_wp2_with fail
 go_region_held3 (fun w'=>w'.row? w.heap.size 0 18=some x.cells∧w'.row? (w.heap.size+1) 0 18=some y.cells) (go_simp)
  (first
   | (go_at_call 156;refine (neg_I _ _).mono ?_;rintro e w1 ⟨rfl,hb1⟩;have z_w1:=hb1.size;(try simp at z_w1);obtain ⟨yw1aa,cw1aa,fw1aa,rw1aa,tw1aa,pw1aa⟩:=bq hb1 (w.heap.size);obtain ⟨yw1ab,cw1ab,fw1ab,rw1ab,tw1ab,pw1ab⟩:=bq hb1 (w.heap.size+1);obtain ⟨yw1ac,cw1ac,fw1ac,rw1ac,tw1ac,pw1ac⟩:=bq hb1 (w.heap.size+1+1))
   | (go_at_call 155;refine (add_I _ _ _).mono ?_;rintro e w2 ⟨rfl,hb2⟩;have z_w2:=hb2.size;(try simp at z_w2);obtain ⟨yw2aa,cw2aa,fw2aa,rw2aa,tw2aa,pw2aa⟩:=bq hb2 (w.heap.size);obtain ⟨yw2ab,cw2ab,fw2ab,rw2ab,tw2ab,pw2ab⟩:=bq hb2 (w.heap.size+1);obtain ⟨yw2ac,cw2ac,fw2ac,rw2ac,tw2ac,pw2ac⟩:=bq hb2 (w.heap.size+1+1)))
 go_wp2
 exact bodyPost_row 18 (x.add y.neg).cells rfl rfl rfl Tryz.underlying153 rfl info_Int (by go_simp) ⟨rfl,below_by⟩
end Go.Proofs.YtechbdnhalmobaaGreatDoor
namespace Go.Proofs.YtechbdnhalmobaaGreatDoor
open Go.RowKit

/-! ### The plain law of the school method -/
theorem mul_step (x y w c:Nat) (hx:x<18446744073709551616) (hy:y<18446744073709551616) (hw:w<18446744073709551616) (hc:c<18446744073709551616) :
  ∃ H L l1 c1 h1 v c2 c':Nat,H=x*y/18446744073709551616∧L=x*y%18446744073709551616∧L<18446744073709551616∧l1=(L+w)%18446744073709551616∧c1=(L+w)/18446744073709551616∧h1=H+c1∧h1<18446744073709551616∧l1<18446744073709551616∧v=(l1+c)%18446744073709551616∧c2=(l1+c)/18446744073709551616 ∧
   c'=h1+c2∧c'<18446744073709551616∧v+18446744073709551616*c'=x*y+w+c∧v<18446744073709551616:=by
 refine ⟨_,_,_,_,_,_,_,_,rfl,rfl,Nat.mod_lt _ (by decide),rfl,rfl,rfl,?_,Nat.mod_lt _ (by decide),rfl,rfl,rfl,?_⟩
 all_goals
  have hxy:x*y≤18446744073709551615*18446744073709551615:=Nat.mul_le_mul (by omega) (by omega)
  generalize x*y=p at *
  omega
theorem mul_inner (A A' x M c v c' i j:Nat) (h:A'+c*2^(64*(i+j))=A+x*(M%2^(64*j))*2^(64*i))
  (hs:v+18446744073709551616*c'=x*wdn M j+wdn A' (i+j)+c) :
  setw A' (i+j) v+c'*2^(64*(i+(j+1)))=A+x*(M%2^(64*(j+1)))*2^(64*i):=by
 have hle:=wdn_mul_le A' (i+j)
 rw [cut_succ M j,← Nat.add_assoc i j 1,pow_succ64 (i+j)]
 have e1:x*(M%2^(64*j)+2^(64*j)*wdn M j)*2^(64*i)=x*(M%2^(64*j))*2^(64*i)+x*wdn M j*2^(64*(i+j)):=by
  rw [Nat.mul_add,Nat.add_mul,show 64*(i+j)=64*j+64*i by omega,Nat.pow_add]
  congr 1
  rw [← Nat.mul_assoc,← Nat.mul_assoc,Nat.mul_assoc x,Nat.mul_comm (2^(64*j)),← Nat.mul_assoc]
 rw [e1,← Nat.add_assoc,← h]
 unfold setw
 generalize 2^(64*(i+j))=p at *
 have e2:(v+18446744073709551616*c')*p=(x*wdn M j+wdn A' (i+j)+c)*p:=by rw [hs]
 simp only [Nat.add_mul] at e2
 have e3:c'*(p*18446744073709551616)=18446744073709551616*c'*p:=by
  rw [Nat.mul_comm p,← Nat.mul_assoc,Nat.mul_comm c']
 rw [e3]
 omega
theorem mul_outer (A A' N M c i n:Nat) (hA:A=N%2^(64*i)*M) (hM:M<2^(64*n)) (hA':A'<2^(64*(i+n)))
  (h:A'+c*2^(64*(i+n))=A+wdn N i*(M%2^(64*n))*2^(64*i)):setw A' (i+n) c=N%2^(64*(i+1))*M:=by
 rw [Nat.mod_eq_of_lt hM] at h
 have h0:wdn A' (i+n)+c=c:=by rw [wdn_eq_zero_of_lt A' (i+n) (i+n) hA' (Nat.le_refl _)];omega
 rw [setw_add _ _ _ _ h0,h,hA,cut_succ,Nat.add_mul]
 congr 1
 rw [Nat.mul_comm (2^(64*i)),Nat.mul_assoc,Nat.mul_assoc,Nat.mul_comm M]
theorem mul_bound (N M i n:Nat) (hM:M<2^(64*n)):N%2^(64*i)*M<2^(64*(i+n)):=by
 rw [show 64*(i+n)=64*i+64*n by omega,Nat.pow_add]
 have h1:=Nat.mod_lt N (Nat.two_pow_pos (64*i))
 rcases Nat.eq_zero_or_pos M with rfl|hM0
 ·rw [Nat.mul_zero];exact Nat.mul_pos (Nat.two_pow_pos _) (Nat.two_pow_pos _)
 ·exact Nat.lt_of_lt_of_le (Nat.mul_lt_mul_of_pos_right h1 hM0) (Nat.mul_le_mul_left _ (Nat.le_of_lt hM))
theorem WI.cells_word (x:WI) (i:Nat) (h:i<16):x.cells[2+i]? = some (.int .u64 ((wdn x.sz i:Nat):Int)):=by
 rw [x.cells_eq];exact cellsI_word _ _ _ i h
theorem rowW_get' (n N i:Nat) (h:i<n):(rowW n N)[i]? = some (.int .u64 ((wdn N i:Nat):Int)):=rowW_get n N i h
theorem mul64_v (X Y H L:Nat) (hX:X<18446744073709551616) (hY:Y<18446744073709551616) (hH:H=X*Y/18446744073709551616) (hL:L=X*Y%18446744073709551616) (w:World) :
  Calls Tryz.prog 201 #[.int .u64 X,.int .u64 Y] w fun e w'=>e = .returned (.tuple #[.int .u64 (H:Int),.int .u64 (L:Int)])∧w'=w :=
 (mul64_c X Y hX hY w).mono fun _ _ ⟨h1,h2⟩=>⟨by rw [h1,hH,hL],h2.symm⟩
theorem add64_v (X Y l c:Nat) (hX:X<18446744073709551616) (hY:Y<18446744073709551616) (hl:l=(X+Y)%18446744073709551616) (hc:c=(X+Y)/18446744073709551616) (w:World) :
  (callFunc 202 #[.int .u64 (X:Int),.int .u64 (Y:Int),.int .u64 0]).run Tryz.prog w = .ok (.value (.tuple #[.int .u64 (l:Int),.int .u64 (c:Int)])) w:=by
 rw [add64 X Y 0 (by omega) (by omega) (by omega) (by omega) (by omega) (by omega),hl,hc]
 congr 5 <;> omega
theorem wrap_u64_v (a b c:Nat) (h:c=a+b) (hc:c<18446744073709551616):IntKind.u64.wrap ((a:Int)+(b:Int))=(c:Int):=by
 rw [IntKind.wrap_u64];omega
theorem row_copy (A:Nat):(_root_.Go.splice (rowW 16 0).toList 0 (rowW 16 A).toList).toArray=rowW 16 A:=by
 unfold _root_.Go.splice
 rw [List.take_zero,List.nil_append,List.drop_eq_nil_of_le (by simp),List.append_nil,Array.toArray_toList]
theorem sgn_mul (n m:Bool) (N M:Nat):sgn n N*sgn m M=sgn (n != m) (N*M):=by
 unfold sgn;cases n <;> cases m <;> simp [Int.neg_mul,Int.mul_neg]
theorem WI.mul_some {x y:WI} (hx:x.ov=false) (hy:y.ov=false):x.mul y=WI.of (sgn (x.ng != y.ng) (x.sz*y.sz)):=by
 unfold WI.mul;rw [WI.some_of_ov hx,WI.some_of_ov hy];simp only [sgn_mul]
theorem WI.mul_over (x y:WI) (h:x.ov=true∨y.ov=true):x.mul y=WI.over:=by
 unfold WI.mul;unfold WI.ov at h
 cases hx:x.v <;> cases hy:y.v <;> simp_all
theorem over_of_word (n:Bool) (A k:Nat) (h:wdn A (16+k)≠0):WI.of (sgn n A)=WI.over:=by
 have h1:=pow_le_of_wdn_ne A (16+k) h
 refine WI.of_over ?_
 rw [sgn_abs]
 have h2:∀ m,m=16→W16≤2^(64*(m+k)):=fun m hm=>by rw [W16_eq m hm];exact pow2_le _ _ (by omega)
 have:=h2 16 rfl
 have:=lim_le
 omega
theorem small_of_words (A:Nat) (hA:LtW A 32) (h:∀ m,m<16→wdn A (16+m)=0):A<W16:=by
 have key:∀ j n,j≤16→n=32→A<2^(64*(n-j)):=by
  intro j
  induction j with
  | zero=>intro n _ hn;rw [← hn] at hA;exact hA
  | succ j ih =>
   intro n hj hn
   have:=ih n (by omega) hn
   rw [show n-j=(n-(j+1))+1 by omega] at this
   refine lt_pow_of_wdn_zero A _ this ?_
   have:=h (16-(j+1)) (by omega)
   rwa [show 16+(16-(j+1))=n-(j+1) by omega] at this
 have h2:∀ m,m=16→A<2^(64*m)→A<W16:=fun m hm h=>by rw [W16_eq m hm];exact h
 have h4:∀ n,n=32→A<W16:=fun n hn=>h2 (n-16) (by omega) (key 16 n (by omega) hn)
 exact h4 32 rfl
theorem rowW_zero32:rowW 32 0=#[.int .u64 0,.int .u64 0,.int .u64 0,.int .u64 0,.int .u64 0,.int .u64 0,.int .u64 0,.int .u64 0,.int .u64 0,.int .u64 0,.int .u64 0,.int .u64 0,.int .u64 0,.int .u64 0,.int .u64 0,.int .u64 0,
  .int .u64 0,.int .u64 0,.int .u64 0,.int .u64 0,.int .u64 0,.int .u64 0,.int .u64 0,.int .u64 0,.int .u64 0,.int .u64 0,.int .u64 0,.int .u64 0,.int .u64 0,.int .u64 0,.int .u64 0,.int .u64 0]:=by
 simp [rowW,Array.ofFn_succ,wd_zero]
@[go_sem ↓] theorem zero_32 (w : World) : (zeroValue 275).run Tryz.prog w = .ok (.agg (rowW 32 0)) w := by
  rw [rowW_zero32];exact Tryz.zeroValue275 w
theorem mul_both (x y:WI) (hx:x.ov=false) (hy:y.ov=false) (w:World) :
  Calls Tryz.prog 153 #[.agg x.cells,.agg y.cells] w fun e w'=>e = .returned (.agg (x.mul y).cells)∧Below w.heap.size w w':=by
 rw [WI.mul_some hx hy]
 obtain ⟨A,hA0⟩:∃ A,A=x.sz*y.sz:=⟨_,rfl⟩
 rw [← hA0]
 have HA0:=Lib.hid hA0
 have hA:LtW A 32:=by
  have h1:=x.sz_lt'
  have h2:=y.sz_lt'
  have h3:∀ m,m=16→LtW A (m+m):=fun m hm=>by
   unfold LtW
   rw [show 64*(m+m)=64*m+64*m by omega,Nat.pow_add,hA0]
   exact Nat.mul_lt_mul'' (W16_lt h1 hm) (W16_lt h2 hm)
  exact h3 16 rfl
 have HA:=Lib.hid hA
 clear hA0 hA
 go_enter Tryz.func153,Tryz.ntmps153
 go_wp2_with fail
 refine (parts_c _ _ _ _ x.sz_lt' (.of_wi ((((Blk.new _ _ _).alloc _).alloc _).alloc _))).mono ?_;rintro e w' ⟨rfl,rfl⟩
 go_wp2_with fail
 refine (parts_c _ _ _ _ y.sz_lt' (.of_wi (((Blk.new' _ _ _ (by simp)).alloc _).alloc _))).mono ?_;rintro e w' ⟨rfl,rfl⟩
 have hm16:np x.sz≤16:=(np_le_iff _ _).2 (LtW.of16 x.sz_lt')
 have hn16:np y.sz≤16:=(np_le_iff _ _).2 (LtW.of16 y.sz_lt')
 have hylt:Hid (y.sz<2^(64*np y.sz)):=np_lt _
 go_wp2_with fail
 go_loopw [29] (fun i wr=>∃ k:Nat,k≤np x.sz∧i = .int .i64 k∧Below w.heap.size w wr∧Blk wr w.heap.size x.cells 153∧Blk wr (w.heap.size+1) y.cells 153∧Blk wr (w.heap.size+1+1) (cellsI false false 0) 153∧Blk wr (w.heap.size+1+1+1) (rowW 32 (x.sz%2^(64*k)*y.sz)) 275) (fun i _=>np x.sz-(intOf i).toNat)
 case atStart =>
  refine ⟨0,by omega,rfl,below_by,(((Blk.new _ _ _).alloc _).alloc _).alloc _,((Blk.new' _ _ _ (by simp)).alloc _).alloc _,(Blk.new' _ _ _ (by simp)).alloc _,?_⟩
  rw [show x.sz%2^(64*0)*y.sz=0 by simp [Nat.mod_one]]
  exact Blk.new' _ _ _ (by simp)
 case round =>
  obtain ⟨i,hi,rfl,hb,q0,q1,q2,q3⟩:=hrel
  obtain ⟨wo,rfl⟩:∃ wo:World,wo=wr:=⟨_,rfl⟩
  by_cases hlt:i<np x.sz
  ·have hlt':(i:Int)<np x.sz:=by omega
   have HB:=Lib.hid hb
   have Q0:=Lib.hid q0
   have Q1:=Lib.hid q1
   have Q2:=Lib.hid q2
   have Q3:=Lib.hid q3
   clear hb q0 q1 q2 q3
   go_wp2_with fail
   go_loopw [9,33] (fun c j wr=>∃ k A c',k≤np y.sz∧j = .int .i64 (k:Nat)∧c = .int .u64 (c':Nat)∧c'<18446744073709551616∧Below w.heap.size w wr∧Blk wr w.heap.size x.cells 153∧Blk wr (w.heap.size+1) y.cells 153∧Blk wr (w.heap.size+1+1) (cellsI false false 0) 153∧Blk wr (w.heap.size+1+1+1) (rowW 32 A) 275∧LtW A (i+np y.sz)∧Hid (A+c'*2^(64*(i+k))=x.sz%2^(64*i)*y.sz+wdn x.sz i*(y.sz%2^(64*k))*2^(64*i))) (fun _ j _=>np y.sz-(intOf j).toNat)
   case atStart =>
    refine ⟨0,_,0,by omega,rfl,rfl,by omega,HB.out,Q0.out,Q1.out,Q2.out,Q3.out,mul_bound _ _ _ _ hylt.out,?_⟩
    exact Lib.hid (by simp [Nat.mod_one])
   case round =>
    obtain ⟨j,A,c,hj,rfl,rfl,hc,hb,q0,q1,q2,q3,hA,hrec⟩:=hrel
    by_cases hlj:j<np y.sz
    ·have hlj':(j:Int)<np y.sz:=by omega
     have hi16:i<16:=by omega
     have hj16:j<16:=by omega
     have e0:wr.cell? ⟨w.heap.size,2+i,none⟩=some (.int .u64 ((wdn x.sz i:Nat):Int)):=q0.cell (x.cells_word i hi16)
     have e1:wr.cell? ⟨w.heap.size+1,2+j,none⟩=some (.int .u64 ((wdn y.sz j:Nat):Int)):=q1.cell (y.cells_word j hj16)
     have e3:wr.cell? ⟨w.heap.size+1+1+1,i+j,none⟩=some (.int .u64 ((wdn A (i+j):Nat):Int)):=q3.cell (rowW_get' 32 A (i+j) (by omega))
     have f3:wr.frozen? ⟨w.heap.size+1+1+1,i+j,none⟩=false:=q3.frozen _
     have hX:=wdn_lt x.sz i
     have hY:=wdn_lt y.sz j
     have hW:=wdn_lt A (i+j)
     obtain ⟨H,L,l1,c1,h1,v,c2,c',hH,hL,hLlt,hl1,hc1,hh1,hh1lt,hl1lt,hv,hc2,hc',hc'lt,hstep,hvlt⟩:=mul_step _ _ _ _ hX hY hW hc
     have hinv:=Lib.hid (mul_inner _ A _ _ c v c' i j hrec.out hstep)
     have hlw:=setw_lt A (i+j) v (i+np y.sz) hvlt (by omega) hA
     have hset:=Lib.hid (rowW_set 32 A (i+j) v hvlt)
     have a1:=fun w=>add64_v L (wdn A (i+j)) l1 c1 hLlt hW hl1 hc1 w
     have a2:=fun w=>add64_v l1 c v c2 hl1lt hc hv hc2 w
     have w1:=wrap_u64_v H c1 h1 hh1 hh1lt
     have w2:=wrap_u64_v h1 c2 c' hc' hc'lt
     have HM:=fun w=>Lib.hid (mul64_v (wdn x.sz i) (wdn y.sz j) H L hX hY hH hL w)
     have HB:=Lib.hid hb
     have Q0:=Lib.hid q0
     have Q1:=Lib.hid q1
     have Q2:=Lib.hid q2
     have Q3:=Lib.hid q3
     clear hb q0 q1 q2 q3 hrec hX hY hW hH hL hLlt hl1 hc1 hh1 hh1lt hl1lt hv hc2 hc' hstep hc
     have hij:(0:Int)≤(i:Int)+j:=by omega
     have hij':(i:Int)+j<32:=by omega
     go_wp2_with fail
     go_quiet ((go_at_call 201;exact Calls.quiet_of_same (HM _).out))
     go_wp2
     refine ⟨⟨j+1,setw A (i+j) v,c',by omega,by go_num,rfl,hc'lt,?_,?_,?_,?_,?_,hlw,hinv⟩,by simp [intOf];omega⟩
     ·exact (below_drewN HB.out _).setCell (by simp;omega) _
     ·exact (Q0.out:Blk (wr.drewN _) _ _ _).setCell_other (by first|omega|(simp;done)|(simp;omega)|fail) _
     ·exact (Q1.out:Blk (wr.drewN _) _ _ _).setCell_other (by first|omega|(simp;done)|(simp;omega)|fail) _
     ·exact (Q2.out:Blk (wr.drewN _) _ _ _).setCell_other (by first|omega|(simp;done)|(simp;omega)|fail) _
     ·rw [← hset.out];exact (Q3.out:Blk (wr.drewN _) _ _ _).setCell_same _ _
    ·have hjn:j=np y.sz:=by omega
     subst hjn
     have ho:=mul_outer _ A x.sz y.sz c i _ rfl hylt.out hA hrec.out
     have hset:=rowW_set 32 A (i+np y.sz) c hc
     rw [ho] at hset
     have HSET:=Lib.hid hset
     have e3:wr.cell? ⟨w.heap.size+1+1+1,i+np y.sz,none⟩=some (.int .u64 ((wdn A (i+np y.sz):Nat):Int)):=q3.cell (rowW_get' 32 A (i+np y.sz) (by omega))
     have f3:wr.frozen? ⟨w.heap.size+1+1+1,i+np y.sz,none⟩=false:=q3.frozen _
     have HB:=Lib.hid hb
     have Q0:=Lib.hid q0
     have Q1:=Lib.hid q1
     have Q2:=Lib.hid q2
     have Q3:=Lib.hid q3
     clear hb q0 q1 q2 q3 hrec ho hset hc
     have hij:(0:Int)≤(i:Int)+np y.sz:=by omega
     have hij':(i:Int)+np y.sz<32:=by omega
     go_wp2
     refine ⟨⟨i+1,by omega,by go_num,?_,?_,?_,?_,?_⟩,by simp [intOf];omega⟩
     ·exact HB.out.setCell (by simp;omega) _
     ·exact Q0.out.setCell_other (by first|omega|(simp;done)|(simp;omega)|fail) _
     ·exact Q1.out.setCell_other (by first|omega|(simp;done)|(simp;omega)|fail) _
     ·exact Q2.out.setCell_other (by first|omega|(simp;done)|(simp;omega)|fail) _
     ·rw [← HSET.out];exact Q3.out.setCell_same _ _
  ·have hin:i=np x.sz:=by omega
   subst hin
   rw [Nat.mod_eq_of_lt (np_lt x.sz),← HA0.out] at q3
   have HB:=Lib.hid hb
   have Q0:=Lib.hid q0
   have Q1:=Lib.hid q1
   have Q2:=Lib.hid q2
   have Q3:=Lib.hid q3
   clear hb q0 q1 q2 q3
   go_wp2_with fail
   refine still_tail 2 (by kernel_rfl) (by kernel_rfl) ?_
   simp only [List.take_succ_cons,List.take_zero,List.drop_succ_cons,List.drop_zero];(repeat still_step);(try refine wpStill_nil ?_)
   go_wp2_with (refine wpList_copy_splice rfl _ _ 279 279 rfl 53 Tryz.underlying279 info_word _ _ 16 16 16 32 rfl rfl wo.heap.size 0 (rowW 16 0).toList 151 (by rw [Array.toArray_toList];exact (Blk.new wo _ _).drew) (rowW 16 A).toList (by simp) (fun _=>⟨rfl,_,rfl,fun j v hv=>?_⟩) (by simp) ?_ wo.heap.size (wo.alloc (.cells (rowW 16 0) 151)).drew (Below.refl _ _) (Nat.le_refl _) ?_)
   · have hj : j < 16 := by
       have:=(List.getElem?_eq_some_iff.1 hv).1
       simpa using this
     rw [Array.getElem?_toList,rowW_get 16 A j hj] at hv
     rw [Addr.add_mid,← hv,Nat.zero_add]
     exact (Blk.cell ((Q3.out.alloc _).drew) (by rw [rowW_get 32 A j (by omega)]))
   ·intro v hv
    exact (Array.all_eq_true_iff_forall_mem.1 (rowW_oneCell 16 A)) v (by simpa using hv)
   intro w2 hg2 hb2
   have q4:Blk w2 wo.heap.size (rowW 16 A) 151:=by have:=hg2.out;rw [row_copy] at this;exact this
   have q0:Blk w2 w.heap.size x.cells 153:=((Q0.out.alloc _).drew).below hb2 Q0.out.lt
   have q1:Blk w2 (w.heap.size+1) y.cells 153:=((Q1.out.alloc _).drew).below hb2 Q1.out.lt
   have q2:Blk w2 (w.heap.size+1+1) (cellsI false false 0) 153:=((Q2.out.alloc _).drew).below hb2 Q2.out.lt
   have q3:Blk w2 (w.heap.size+1+1+1) (rowW 32 A) 275:=((Q3.out.alloc _).drew).below hb2 Q3.out.lt
   have HB2:Hid (Below w.heap.size w w2):=((HB.out.alloc HB.out.size _).drew).trans (hb2.mono HB.out.size)
   have ns:wo.heap.size<w2.heap.size:=q4.lt
   have n2:w.heap.size+1+1<w2.heap.size:=q2.lt
   have Q0:=Lib.hid q0
   have Q1:=Lib.hid q1
   have Q2:=Lib.hid q2
   have Q3:=Lib.hid q3
   have Q4:=Lib.hid q4
   clear q0 q1 q2 q3 q4 hb2 hg2 HB
   go_wp2_with fail
   go_loop [86] (fun i=>∃ k:Nat,k≤16∧i = .int .i64 k∧Hid (∀ m,m<k→wdn A (16+m)=0)) (fun i=>16-(intOf i).toNat)
   case atStart=>exact ⟨0,by omega,rfl,Lib.hid (fun m hm=>absurd hm (Nat.not_lt_zero m))⟩
   case round =>
    obtain ⟨k,hk,rfl,hz⟩:=hrel
    by_cases hlt:k<16
    ·have hlt':(k:Int)<16:=by omega
     have e3:w2.cell? ⟨w.heap.size+1+1+1,16+k,none⟩=some (.int .u64 ((wdn A (16+k):Nat):Int)):=Q3.out.cell (rowW_get' 32 A (16+k) (by omega))
     by_cases h0:wdn A (16+k)=0
     ·have h0':((wdn A (16+k):Int) != 0)=false:=by simp [h0]
      have hz':Hid (∀ m,m<k+1→wdn A (16+m)=0):=fun m hm=>by
       rcases Nat.lt_succ_iff_lt_or_eq.1 hm with h|h
       ·exact hz.out m h
       ·rw [h];exact h0
      clear h0 hz
      go_wp2
      go_round
      case rel=>exact ⟨k+1,by omega,by go_num,hz'⟩
      case measure=>simp [intOf] <;> omega
     ·have h0':((wdn A (16+k):Int) != 0)=true:=by simp;omega
      have E:=Lib.hid (over_of_word (x.ng != y.ng) A k h0)
      have p2:=Q2.out.put? 0 (cellsI false true 0) (by simp) (by simp)
      clear h0 hz
      go_wp2_with fail
      refine (tooGreat_c _).mono ?_;rintro e w3 ⟨rfl,hb3⟩;have z_w3:=hb3.size;(try simp at z_w3);obtain ⟨yw3aa,cw3aa,fw3aa,rw3aa,tw3aa,pw3aa⟩:=bq hb3 (w.heap.size);obtain ⟨yw3ab,cw3ab,fw3ab,rw3ab,tw3ab,pw3ab⟩:=bq hb3 (w.heap.size+1);obtain ⟨yw3ac,cw3ac,fw3ac,rw3ac,tw3ac,pw3ac⟩:=bq hb3 (w.heap.size+1+1)
      have p3:=(Q2.out.keep hb3).put? 0 (cellsI false true 0) (by simp) (by simp)
      have p4:=row_put p3 (n:=18) (by simp)
      go_wp2
      exact bodyPost_row 18 (cellsI false true 0) rfl rfl rfl Tryz.underlying153 rfl info_Int (by go_simp) ⟨by rw [E.out];rfl,below_by⟩
    ·have hk16:k=16:=by omega
     subst hk16
     have hs:=Lib.hid (small_of_words A HA.out hz.out)
     have e0:w2.cell? ⟨w.heap.size,0,none⟩=some (.bool x.ng):=Q0.out.cell x.cells_0
     have e1:w2.cell? ⟨w.heap.size+1,0,none⟩=some (.bool y.ng):=Q1.out.cell y.cells_0
     have e4:w2.row? wo.heap.size 0 16=some (rowW 16 A):=Q4.out.row?_all 16 (by simp)
     go_wp2_with fail
     refine (made_c _ _ hs.out _).mono ?_;rintro e w3 ⟨rfl,hb3⟩
     have p3:=(Q2.out.keep hb3).put? 0 (WI.of (sgn (!x.ng==y.ng) A)).cells (by simp) (by simp)
     have p4:=row_put p3 (n:=18) (by simp)
     go_wp2
     exact bodyPost_row 18 (WI.of (sgn (!x.ng==y.ng) A)).cells rfl rfl rfl Tryz.underlying153 rfl info_Int (by go_simp) ⟨by rw [show (!x.ng==y.ng)=(x.ng != y.ng) by cases x.ng <;> cases y.ng <;> rfl],below_by⟩
theorem mul_over (x y:WI) (h:x.ov=true∨y.ov=true) (w:World) :
  Calls Tryz.prog 153 #[.agg x.cells,.agg y.cells] w fun e w'=>e = .returned (.agg (x.mul y).cells)∧Below w.heap.size w w':=by
 rw [WI.mul_over x y h]
 cases hx:x.ov with
 | true =>
  clear h
  go_enter Tryz.func153,Tryz.ntmps153
  go_wp2_with fail
  refine (tooGreat_c _).mono ?_;rintro e w1 ⟨rfl,hb1⟩;have z_w1:=hb1.size;(try simp at z_w1);obtain ⟨yw1aa,cw1aa,fw1aa,rw1aa,tw1aa,pw1aa⟩:=bq hb1 (w.heap.size);obtain ⟨yw1ab,cw1ab,fw1ab,rw1ab,tw1ab,pw1ab⟩:=bq hb1 (w.heap.size+1);obtain ⟨yw1ac,cw1ac,fw1ac,rw1ac,tw1ac,pw1ac⟩:=bq hb1 (w.heap.size+1+1)
  go_wp2
  exact bodyPost_row 18 (cellsI false true 0) rfl rfl rfl Tryz.underlying153 rfl info_Int (by go_simp) ⟨rfl,below_by⟩
 | false =>
  have hy:y.ov=true:=by rcases h with h|h <;> simp_all
  clear h
  go_enter Tryz.func153,Tryz.ntmps153
  go_wp2_with fail
  refine (tooGreat_c _).mono ?_;rintro e w1 ⟨rfl,hb1⟩;have z_w1:=hb1.size;(try simp at z_w1);obtain ⟨yw1aa,cw1aa,fw1aa,rw1aa,tw1aa,pw1aa⟩:=bq hb1 (w.heap.size);obtain ⟨yw1ab,cw1ab,fw1ab,rw1ab,tw1ab,pw1ab⟩:=bq hb1 (w.heap.size+1);obtain ⟨yw1ac,cw1ac,fw1ac,rw1ac,tw1ac,pw1ac⟩:=bq hb1 (w.heap.size+1+1)
  go_wp2
  exact bodyPost_row 18 (cellsI false true 0) rfl rfl rfl Tryz.underlying153 rfl info_Int (by go_simp) ⟨rfl,below_by⟩
theorem mul_I (x y:WI) (w:World) :
  Calls Tryz.prog 153 #[.agg x.cells,.agg y.cells] w fun e w'=>e = .returned (.agg (x.mul y).cells)∧Below w.heap.size w w':=by
 cases hx:x.ov with
 | true=>exact mul_over x y (.inl hx) w
 | false =>
  cases hy:y.ov with
  | true=>exact mul_over x y (.inr hy) w
  | false=>exact mul_both x y hx hy w
end Go.Proofs.YtechbdnhalmobaaGreatDoor
namespace Go.Proofs.YtechbdnhalmobaaGreatDoor
open Go.RowKit

theorem WI.sign_eq (x:WI):x.sign=if x.ov=true∨x.sz=0 then 0 else if x.ng=true then -1 else 1:=by
 unfold WI.sign WI.ov WI.sz WI.ng
 cases x.v with
 | none=>simp
 | some z =>
  simp
  rcases Int.lt_trichotomy z 0 with h|h|h
  ·rw [Int.sign_eq_neg_one_of_neg h,if_neg (by omega),if_pos h]
  ·subst h;simp
  ·rw [Int.sign_eq_one_of_pos h,if_neg (by omega),if_neg (by omega)]
theorem sign_I (x:WI) (w:World) :
  Calls Tryz.prog 77 #[.agg x.cells] w fun e w'=>e = .returned (.int .i64 x.sign)∧Below w.heap.size w w':=by
 have HE:=Lib.hid x.sign_eq
 have HQ:=Lib.hid (eqW_zero x.sz x.sz_lt')
 cases ho:x.ov with
 | true =>
  have e:Hid (x.sign=0):=by rw [ho] at HE;have:=HE.out;simp at this;exact this
  go_enter Tryz.func77,Tryz.ntmps77
  go_wp2
  go_ret
  exact ⟨ret_int e.out.symm,below_by⟩
 | false =>
  by_cases h0:x.sz=0
  ·have e:Hid (x.sign=0):=by have:=HE.out;simp [h0] at this;exact this
   have hq:eqW x.sz 0=true:=by rw [HQ.out];simp [h0]
   have H0:=Lib.hid h0
   clear h0
   go_enter Tryz.func77,Tryz.ntmps77
   go_wp2
   go_ret
   exact ⟨ret_int e.out.symm,below_by⟩
  ·have hq:eqW x.sz 0=false:=by rw [HQ.out];simp [h0]
   cases hn:x.ng with
   | true =>
    have e:Hid (x.sign = -1):=by have:=HE.out;simp [h0,ho,hn] at this;exact this
    have H0:=Lib.hid h0
    clear h0
    go_enter Tryz.func77,Tryz.ntmps77
    go_wp2
    go_ret
    exact ⟨ret_int e.out.symm,below_by⟩
   | false =>
    have e:Hid (x.sign=1):=by have:=HE.out;simp [h0,ho,hn] at this;exact this
    have H0:=Lib.hid h0
    clear h0
    go_enter Tryz.func77,Tryz.ntmps77
    go_wp2
    go_ret
    exact ⟨ret_int e.out.symm,below_by⟩
theorem over_I (x:WI) (w:World) :
  Calls Tryz.prog 319 #[.agg x.cells] w fun e w'=>e = .returned (.bool x.ov)∧Below w.heap.size w w':=by
 go_enter Tryz.func319,Tryz.ntmps319
 go_wp2
 go_ret
 exact ⟨rfl,below_by⟩
end Go.Proofs.YtechbdnhalmobaaGreatDoor
