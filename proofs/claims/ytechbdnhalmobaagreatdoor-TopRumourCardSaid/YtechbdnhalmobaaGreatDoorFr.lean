/- The frame of a law's row: what came in, its shape; it is read again behind the call. -/
import Derived.WalkKit
import Derived.ProofKit
import Derived.OpenShut
import Derived.ShutString
import Derived.ChangeOld
import Derived.Below
import Derived.Carry
import Derived.Test.YtechbdnhalmobaaGreatDoorRows
import Derived.Test.YtechbdnhalmobaaGreatDoorBE
namespace Go.Proofs.YtechbdnhalmobaaGreatDoor
set_option linter.unusedSimpArgs false
set_option linter.unusedVariables false
set_option maxRecDepth 100000
open Go.ChangeShapes Go.WideShapes Go.ChangeAt Go.RowKit
theorem okWide_cells {P:Program} {W:World} {r:Reach} {base:Nat} {t:TypeId} {v:Value} {fs:Array Field} {ts:List TypeId} (hu:P.underlying t=some (.struct fs)) (hts:P.cellTypes P.depth t=some ts) (hc:P.cellsOf t=ts.length)
  (h:Value.okWide P W r base t v):∃ cs:Array Value,v = .agg cs∧cs.size=ts.length∧∀ (i:Nat) u,ts[i]? = some u→∃ x,cs[i]? = some x∧Cell.okWide P W r base u x:=by
 unfold Value.okWide at h
 rw [hu] at h
 obtain ⟨cs,rfl,hs,ts',hts',_,hcell⟩:=h
 rw [hts] at hts'
 obtain rfl:=Option.some.inj hts'
 refine ⟨cs,rfl,by omega,fun i u hi=>?_⟩
 have hlt:i<ts.length:=by
  rcases Nat.lt_or_ge i ts.length with h'|h'
  ·exact h'
  ·rw [List.getElem?_eq_none h'] at hi;cases hi
 have hlt':i<cs.size:=by omega
 refine ⟨cs[i],Array.getElem?_eq_getElem hlt',?_⟩
 obtain ⟨u',hu',hc'⟩:=hcell i cs[i] (Array.getElem?_eq_getElem hlt')
 rw [Nat.mod_eq_of_lt hlt,hi] at hu'
 obtain rfl:=Option.some.inj hu'
 exact hc'
theorem cell_int {P:Program} {W:World} {r:Reach} {base:Nat} {u:TypeId} {k:IntKind} {x:Value} (hu:P.underlying u=some (.int k)) (h:Cell.okWide P W r base u x):∃ n,x = .int k n∧k.has n:=by
 unfold Cell.okWide at h
 rw [hu] at h
 unfold Cell.ok at h
 cases x <;> simp_all
theorem okWide_int_has {P:Program} {W:World} {r:Reach} {base:Nat} {u:TypeId} {k:IntKind} {x:Value} (hu:P.underlying u=some (.int k)) (h:Value.okWide P W r base u x):∃ n,x = .int k n∧k.has n:=by
 refine cell_int (P:=P) (W:=W) (r:=r) (base:=base) hu ?_
 unfold Value.okWide at h;rw [hu] at h;exact h
theorem has_i64 {n:Int} (h:IntKind.i64.has n) : -9223372036854775808≤n∧n≤9223372036854775807:=h
theorem trodAll_again {H:Type} {enc:TypeId × Value→H} {P:Program} (hl:laidOutB P=true) {W W':World} (hb:Below W.heap.size W W') :
  ∀ (ts:List TypeId) (vs:List Value) (ds:List (DataW H)) (ps:List MemPlace),(∀ t ∈ ts,P.readableRec t=true∧t<P.types.size)→DataW.TrodAll enc P W 0 (fun _=>true) true ts vs ds ps →
   DataW.TrodAll enc P W' 0 (fun b=>decide (b<W.heap.size)) true ts vs ds ps:=by
 intro ts
 induction ts with
 | nil=>intro vs ds ps _ h;obtain ⟨rfl,rfl,rfl⟩:=trodAll_nil h;exact trodAll_mk0
 | cons t ts ih =>
  intro vs ds ps ht h
  obtain ⟨v,vs',d,ds',p,q,rfl,rfl,rfl,h1,h2⟩:=trodAll_cons h
  have lt0:∀ x ∈ p,x.block<W.heap.size:=by have k:=h1;obtain ⟨m,hm⟩:=k;exact DataW.trod_lt m _ _ _ hm
  have ht0:=ht t List.mem_cons_self
  exact trodAll_cons_mk (Below.trod hl ht0.1 ht0.2 h1 hb lt0) (ih _ _ _ (fun t' h'=>ht t' (List.mem_cons_of_mem _ h')) h2)
theorem own:ownKnob Tryz.prog.godebug=none:=by kernel_rfl
theorem laidOut:laidOutB Tryz.prog=true:=by kernel_rfl
theorem open_i64 {W:World} {base:Nat} {v:Value} (h:Value.okWide Tryz.prog W .any base 2 v):∃ n,v = .int .i64 n∧I64 n:=by
 obtain ⟨n,rfl,hn⟩:=okWide_int_has Tryz.underlying2 h
 exact ⟨n,rfl,has_i64 hn⟩
theorem open_pt {W:World} {base:Nat} {v:Value} (h:Value.okWide Tryz.prog W .any base 31 v):∃ a b,v=ptV a b∧I64 a∧I64 b:=by
 obtain ⟨cs,rfl,hs,hc⟩:=okWide_cells Tryz.underlying31 (ts:=[2,2]) (by kernel_rfl) (by kernel_rfl) h
 obtain ⟨x0,h0,k0⟩:=hc 0 _ rfl
 obtain ⟨x1,h1,k1⟩:=hc 1 _ rfl
 obtain ⟨a,rfl,b0⟩:=cell_int Tryz.underlying2 k0
 obtain ⟨b,rfl,b1⟩:=cell_int Tryz.underlying2 k1
 refine ⟨a,b,?_,has_i64 b0,has_i64 b1⟩
 congr 1
 apply Array.ext_getElem?
 intro i
 rcases i with _|_|i
 ·exact h0
 ·exact h1
 ·rw [Array.getElem?_eq_none (by simp at hs;omega),Array.getElem?_eq_none (by simp)]
theorem open_el {W:World} {base:Nat} {v:Value} (h:Value.okWide Tryz.prog W .any base 35 v):∃ x y a b d,v=elC x y a b d∧I64 x∧I64 y∧I64 a∧I64 b∧I64 d:=by
 obtain ⟨cs,rfl,hs,hc⟩:=okWide_cells Tryz.underlying35 (ts:=[2,2,2,2,2]) (by kernel_rfl) (by kernel_rfl) h
 obtain ⟨x0,h0,k0⟩:=hc 0 _ rfl
 obtain ⟨x1,h1,k1⟩:=hc 1 _ rfl
 obtain ⟨x2,h2,k2⟩:=hc 2 _ rfl
 obtain ⟨x3,h3,k3⟩:=hc 3 _ rfl
 obtain ⟨x4,h4,k4⟩:=hc 4 _ rfl
 obtain ⟨x,rfl,b0⟩:=cell_int Tryz.underlying2 k0
 obtain ⟨y,rfl,b1⟩:=cell_int Tryz.underlying2 k1
 obtain ⟨a,rfl,b2⟩:=cell_int Tryz.underlying2 k2
 obtain ⟨b,rfl,b3⟩:=cell_int Tryz.underlying2 k3
 obtain ⟨d,rfl,b4⟩:=cell_int Tryz.underlying2 k4
 refine ⟨x,y,a,b,d,?_,has_i64 b0,has_i64 b1,has_i64 b2,has_i64 b3,has_i64 b4⟩
 congr 1
 apply Array.ext_getElem?
 intro i
 rcases i with _|_|_|_|_|i
 ·exact h0
 ·exact h1
 ·exact h2
 ·exact h3
 ·exact h4
 ·rw [Array.getElem?_eq_none (by simp at hs;omega),Array.getElem?_eq_none (by simp)]
end Go.Proofs.YtechbdnhalmobaaGreatDoor
