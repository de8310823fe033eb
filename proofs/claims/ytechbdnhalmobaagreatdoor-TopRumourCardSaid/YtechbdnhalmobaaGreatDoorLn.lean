/- The walk of math/bits.Len64, after the library's own proof of it (without WalkKit). -/
import Derived.Test.YtechbdnhalmobaaGreatDoorProg
import Derived.Test.YtechbdnhalmobaaGreatDoorBN
import Derived.Lib.Strings
import Derived.Lib.Slices
import Derived.Lib.Small
import Derived.Lib.Walk
import Derived.Lib.BitFns
set_option maxRecDepth 100000
set_option maxHeartbeats 16000000
namespace Go.Proofs.YtechbdnhalmobaaGreatDoor
set_option linter.unusedSimpArgs false
set_option linter.unusedVariables false

theorem bitLen_eq (x:Nat) (h:x<18446744073709551616):Lib.bitLen x=bl x:=by
 have key:∀ f x:Nat,x<2^f→Lib.bitLenAux f x=bl x:=by
  intro f
  induction f with
  | zero => intro x hx; have : x = 0 := by simpa using hx
            subst this;rfl
  | succ f ih =>
   intro x hx
   simp only [Lib.bitLenAux]
   by_cases h0:x=0
   ·subst h0;rfl
   ·rw [if_neg h0,ih (x/2) (by rw [Nat.pow_succ] at hx;omega)]
    symm
    apply bl_unique
    ·have:=bl_lt (x/2)
     rw [Nat.pow_add];omega
    ·right
     by_cases h2:x/2=0
     ·rw [h2];simp [bl];omega
     ·have h3:=bl_le_self (x/2) h2
      have h4:=bl_pos (x/2) h2
      rw [show 1+bl (x/2)-1=(bl (x/2)-1)+1 by omega,Nat.pow_succ]
      omega
 exact key 64 x h
theorem len64_c (x:Int) (w:World) (h0:0≤x) (h1:x<18446744073709551616) :
  Calls Tryz.prog 240 #[.int .u64 x] w fun e w'=>e = .returned (.int .i64 (bl x.toNat))∧w=w':=by
 rw [← bitLen_eq x.toNat (by omega)]
 go_enter Tryz.func240,Tryz.ntmps240
 go_wp2
 all_goals (go_ret;refine ⟨congrArg Ending.returned (congrArg (Value.int IntKind.i64) ?_),rfl⟩)
 all_goals first
  | (rw [Lib.len8_of (x / 4294967296 / 65536 / 256 % 256) (by omega) (by omega)]
     have e:(x/4294967296/65536/256%256).toNat=x.toNat/72057594037927936:=by omega
     have l:=Lib.bitLen_le8' (x/4294967296/65536/256%256) (by omega) (by omega)
     have s:=Lib.bitLen_shift56 x.toNat (by omega) (by omega)
     rw [e] at l ⊢
     omega)
  | (rw [Lib.len8_of (x / 4294967296 / 65536 % 256) (by omega) (by omega)]
     have e:(x/4294967296/65536%256).toNat=x.toNat/281474976710656:=by omega
     have l:=Lib.bitLen_le8' (x/4294967296/65536%256) (by omega) (by omega)
     have s:=Lib.bitLen_shift48 x.toNat (by omega) (by omega)
     rw [e] at l ⊢
     omega)
  | (rw [Lib.len8_of (x / 4294967296 / 256 % 256) (by omega) (by omega)]
     have e:(x/4294967296/256%256).toNat=x.toNat/1099511627776:=by omega
     have l:=Lib.bitLen_le8' (x/4294967296/256%256) (by omega) (by omega)
     have s:=Lib.bitLen_shift40 x.toNat (by omega) (by omega)
     rw [e] at l ⊢
     omega)
  | (rw [Lib.len8_of (x / 4294967296 % 256) (by omega) (by omega)]
     have e:(x/4294967296%256).toNat=x.toNat/4294967296:=by omega
     have l:=Lib.bitLen_le8' (x/4294967296%256) (by omega) (by omega)
     have s:=Lib.bitLen_shift32 x.toNat (by omega) (by omega)
     rw [e] at l ⊢
     omega)
  | (rw [Lib.len8_of (x / 65536 / 256 % 256) (by omega) (by omega)]
     have e:(x/65536/256%256).toNat=x.toNat/16777216:=by omega
     have l:=Lib.bitLen_le8' (x/65536/256%256) (by omega) (by omega)
     have s:=Lib.bitLen_shift24 x.toNat (by omega) (by omega)
     rw [e] at l ⊢
     omega)
  | (rw [Lib.len8_of (x / 65536 % 256) (by omega) (by omega)]
     have e:(x/65536%256).toNat=x.toNat/65536:=by omega
     have l:=Lib.bitLen_le8' (x/65536%256) (by omega) (by omega)
     have s:=Lib.bitLen_shift16 x.toNat (by omega) (by omega)
     rw [e] at l ⊢
     omega)
  | (rw [Lib.len8_of (x / 256 % 256) (by omega) (by omega)]
     have e:(x/256%256).toNat=x.toNat/256:=by omega
     have l:=Lib.bitLen_le8' (x/256%256) (by omega) (by omega)
     have s:=Lib.bitLen_shift8 x.toNat (by omega) (by omega)
     rw [e] at l ⊢
     omega)
  | (rw [Lib.len8_of (x % 256) (by omega) (by omega)]
     have e:(x%256).toNat=x.toNat:=by omega
     have l:=Lib.bitLen_le8' (x%256) (by omega) (by omega)
     rw [e] at l ⊢
     omega)
end Go.Proofs.YtechbdnhalmobaaGreatDoor
