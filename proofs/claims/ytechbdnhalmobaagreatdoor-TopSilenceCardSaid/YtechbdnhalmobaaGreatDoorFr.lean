/- Walks. -/
import Derived.WalkKit
import Derived.ProofKit
import Derived.OpenShut
import Derived.ShutString
import Derived.ChangeOld
import Derived.Below
import Derived.Carry
namespace Go.Proofs.YtechbdnhalmobaaGreatDoor
set_option linter.unusedSimpArgs false
set_option linter.unusedVariables false
open Go.ChangeShapes Go.WideShapes Go.ChangeAt Go.RowKit
theorem fF {P:Program} {W:World} {r:Reach} {base:Nat} {u:TypeId} {k:IntKind} {x:Value} (hu:P.underlying u=some (.int k)) (h:Cell.okWide P W r base u x):∃ n,x = .int k n∧k.has n:=by
 unfold Cell.okWide at h;rw[hu] at h;unfold Cell.ok at h;cases x <;> simp_all
theorem mn {P:Program} {W:World} {r:Reach} {base:Nat} {u:TypeId} {k:IntKind} {x:Value} (hu:P.underlying u=some (.int k)) (h:Value.okWide P W r base u x):∃ n,x = .int k n∧k.has n:=by
 refine fF (P:=P) (W:=W) (r:=r) (base:=base) hu ?_;unfold Value.okWide at h;rw[hu] at h;exact h
theorem il {n:Int} (h:IntKind.i64.has n) : -9223372036854775808≤n∧n≤9223372036854775807:=h
theorem mY {H:Type} {enc:TypeId × Value→H} {P:Program} (hl:laidOutB P=true) {W W':World} (hb:Below W.heap.size W W') :
  ∀ (ts:List TypeId) (vs:List Value) (ds:List (DataW H)) (ps:List MemPlace),(∀ t ∈ ts,P.readableRec t=true∧t<P.types.size)→DataW.TrodAll enc P W 0 (fun _=>true) true ts vs ds ps →
   DataW.TrodAll enc P W' 0 (fun b=>decide (b<W.heap.size)) true ts vs ds ps:=by
 intro ts;induction ts with
 | nil=>intro vs ds ps _ h;obtain⟨rfl,rfl,rfl⟩:=trodAll_nil h;exact trodAll_mk0
 | cons t ts ih =>
  intro vs ds ps ht h;obtain⟨v,vs',d,ds',p,q,rfl,rfl,rfl,h1,h2⟩:=trodAll_cons h;have lt0:∀ x ∈ p,x.block<W.heap.size:=by have k:=h1;obtain⟨m,hm⟩:=k;exact DataW.trod_lt m _ _ _ hm
  have ht0:=ht t List.mem_cons_self;exact trodAll_cons_mk (Below.trod hl ht0.1 ht0.2 h1 hb lt0) (ih _ _ _ (fun t' h'=>ht t' (List.mem_cons_of_mem _ h')) h2)
end Go.Proofs.YtechbdnhalmobaaGreatDoor
