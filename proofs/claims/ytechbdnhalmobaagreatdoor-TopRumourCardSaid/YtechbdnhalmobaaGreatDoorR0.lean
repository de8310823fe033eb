/- Laws and walks that the claim names. -/
import Derived.Test.YtechbdnhalmobaaGreatDoorBA
namespace Go.Proofs.YtechbdnhalmobaaGreatDoor
set_option linter.unusedSimpArgs false
set_option linter.unusedVariables false
def nv:List Nat→Nat
 | []=>0
 | d :: r=>d+4294967296*nv r
def dg (n:Nat):List Nat:=if h:n=0 then [] else n%4294967296 :: dg (n/4294967296)
termination_by n
decreasing_by omega
def Dig (l:List Nat):Prop:=∀ d ∈ l,d<4294967296
theorem dig_take {l:List Nat} (h:Dig l) (n:Nat):Dig (l.take n):=fun d hd=>h d (List.mem_of_mem_take hd)
end Go.Proofs.YtechbdnhalmobaaGreatDoor
