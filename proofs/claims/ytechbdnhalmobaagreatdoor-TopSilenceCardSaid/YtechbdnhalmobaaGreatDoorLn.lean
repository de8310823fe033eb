/- Walks. -/
import Derived.Test.YtechbdnhalmobaaGreatDoorProg
import Derived.Test.YtechbdnhalmobaaGreatDoorBN
import Derived.Lib.Strings
import Derived.Lib.Slices
import Derived.Lib.Small
import Derived.Lib.Walk
import Derived.Lib.BitFns
set_option maxRecDepth 100000
set_option maxHeartbeats 16000000
namespace Go.Proofs.YtechbdnhalmobaaGreatDoor
set_option linter.unusedSimpArgs false
set_option linter.unusedVariables false
theorem wO (x:Nat) (h:x<18446744073709551616):Lib.bitLen x=bl x:=by
 have b:∀ f x:Nat,x<2^f→Lib.bitLenAux f x=bl x:=by
  intro f;induction f with
  | zero => intro x c; have : x = 0 := by simpa using c
            subst this;rfl
  | succ f e =>
   intro x c;simp only[Lib.bitLenAux];by_cases d:x=0
   ·subst d;rfl
   ·rw[if_neg d,e (x/2) (by rw[Nat.pow_succ] at c;omega)];symm;apply iq
    ·have:=mU (x/2);rw[Nat.pow_add];omega
    ·right;by_cases a:x/2=0
     ·rw[a];simp[bl];omega
     ·have i:=d7 (x/2) a;have g:=iL (x/2) a;rw[show 1+bl (x/2)-1=(bl (x/2)-1)+1 by omega,Nat.pow_succ];omega
 exact b 64 x h
theorem ul (x:Int) (w:World) (c:0≤x) (b:x<18446744073709551616) :
  Calls Tryz.prog 240 #[.int .u64 x] w fun e a=>e = .returned (.int .i64 (bl x.toNat))∧w=a:=by
 rw[← wO x.toNat (by omega)];go_enter Tryz.func240,Tryz.ntmps240;go_wp2
 all_goals (go_ret;refine⟨congrArg Ending.returned (congrArg (Value.int IntKind.i64) ?_),rfl⟩)
 all_goals first
  | (rw[Lib.len8_of (x / 4294967296 / 65536 / 256 % 256) (by omega) (by omega)]
     have e:(x/4294967296/65536/256%256).toNat=x.toNat/72057594037927936:=by omega
     have l:=Lib.bitLen_le8' (x/4294967296/65536/256%256) (by omega) (by omega);have s:=Lib.bitLen_shift56 x.toNat (by omega) (by omega);rw[e] at l ⊢;omega)
  | (rw[Lib.len8_of (x / 4294967296 / 65536 % 256) (by omega) (by omega)]
     have e:(x/4294967296/65536%256).toNat=x.toNat/281474976710656:=by omega
     have l:=Lib.bitLen_le8' (x/4294967296/65536%256) (by omega) (by omega);have s:=Lib.bitLen_shift48 x.toNat (by omega) (by omega);rw[e] at l ⊢;omega)
  | (rw[Lib.len8_of (x / 4294967296 / 256 % 256) (by omega) (by omega)]
     have e:(x/4294967296/256%256).toNat=x.toNat/1099511627776:=by omega
     have l:=Lib.bitLen_le8' (x/4294967296/256%256) (by omega) (by omega);have s:=Lib.bitLen_shift40 x.toNat (by omega) (by omega);rw[e] at l ⊢;omega)
  | (rw[Lib.len8_of (x / 4294967296 % 256) (by omega) (by omega)]
     have e:(x/4294967296%256).toNat=x.toNat/4294967296:=by omega
     have l:=Lib.bitLen_le8' (x/4294967296%256) (by omega) (by omega);have s:=Lib.bitLen_shift32 x.toNat (by omega) (by omega);rw[e] at l ⊢;omega)
  | (rw[Lib.len8_of (x / 65536 / 256 % 256) (by omega) (by omega)]
     have e:(x/65536/256%256).toNat=x.toNat/16777216:=by omega
     have l:=Lib.bitLen_le8' (x/65536/256%256) (by omega) (by omega);have s:=Lib.bitLen_shift24 x.toNat (by omega) (by omega);rw[e] at l ⊢;omega)
  | (rw[Lib.len8_of (x / 65536 % 256) (by omega) (by omega)]
     have e:(x/65536%256).toNat=x.toNat/65536:=by omega
     have l:=Lib.bitLen_le8' (x/65536%256) (by omega) (by omega);have s:=Lib.bitLen_shift16 x.toNat (by omega) (by omega);rw[e] at l ⊢;omega)
  | (rw[Lib.len8_of (x / 256 % 256) (by omega) (by omega)]
     have e:(x/256%256).toNat=x.toNat/256:=by omega
     have l:=Lib.bitLen_le8' (x/256%256) (by omega) (by omega);have s:=Lib.bitLen_shift8 x.toNat (by omega) (by omega);rw[e] at l ⊢;omega)
  | (rw[Lib.len8_of (x % 256) (by omega) (by omega)]
     have e:(x%256).toNat=x.toNat:=by omega
     have l:=Lib.bitLen_le8' (x%256) (by omega) (by omega);rw[e] at l ⊢;omega)
end Go.Proofs.YtechbdnhalmobaaGreatDoor
