/- Laws and walks that the claim names. -/
import Derived.Test.YtechbdnhalmobaaGreatDoorN13b
namespace Go.Proofs.YtechbdnhalmobaaGreatDoor
set_option linter.unusedSimpArgs false
set_option linter.unusedVariables false
def rtGo:Nat→Nat→Nat→Nat
 | 0,_,r=>r
 | k+1,n,r=>if (r+2^k)*(r+2^k)≤n then rtGo k n (r+2^k) else rtGo k n r
def rtF (n:Nat):Nat:=rtGo 64 n 0
theorem rtGo_spec (k n r:Nat) (h1:r*r≤n) (h2:n<(r+2^k)*(r+2^k)):rtGo k n r*rtGo k n r≤n∧n<(rtGo k n r+1)*(rtGo k n r+1):=by
 induction k generalizing r with
 | zero=>exact ⟨h1,h2⟩
 | succ k ih =>
  unfold rtGo
  split
  ·rename_i h3
   refine ih _ h3 ?_
   have e:r+2^k+2^k=r+2^(k+1):=by rw [Nat.pow_succ];omega
   rw [e];exact h2
  ·rename_i h3
   exact ih _ h1 (by omega)
theorem rt_f (n:Nat) (h:n<340282366920938463463374607431768211456):rt n=rtF n:=by
 have:=rtGo_spec 64 n 0 (by omega) (by rw [Nat.zero_add];exact Nat.lt_of_lt_of_le h (by decide))
 exact rt_unique this.1 this.2
def rtIF (z:Int):Int:=(rtF z.toNat:Nat)
theorem rtI_f (z:Int) (h:z<340282366920938463463374607431768211456):rtI z=rtIF z:=by unfold rtI rtIF;rw [rt_f _ (by omega)]
end Go.Proofs.YtechbdnhalmobaaGreatDoor
