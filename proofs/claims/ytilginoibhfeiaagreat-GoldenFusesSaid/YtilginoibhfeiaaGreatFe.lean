/- Laws and walks that the claim names. -/
import Derived.Test.YtilginoibhfeiaaGreatRows
import Derived.Test.YtilginoibhfeiaaGreatFr
import Derived.Test.YtilginoibhfeiaaGreatBE
namespace Go.Proofs.YtilginoibhfeiaaGreat
open Go.ChangeShapes Go.WideShapes Go.ChangeAt Go.RowKit
set_option maxRecDepth 100000
theorem own:ownKnob Tryz.prog.godebug=none:=by kernel_rfl
theorem laidOut:laidOutB Tryz.prog=true:=by kernel_rfl
theorem open_el {W:World} {base:Nat} {v:Value} (h:Value.okWide Tryz.prog W .any base 27 v):∃ x y a b d,v=elC x y a b d∧I64 x∧I64 y∧I64 a∧I64 b∧I64 d:=by
 obtain ⟨cs,rfl,hs,hc⟩:=okWide_cells Tryz.underlying27 (ts:=[2,2,2,2,2]) (by kernel_rfl) (by kernel_rfl) h
 obtain ⟨x0,h0,k0⟩:=hc 0 _ rfl
 obtain ⟨x1,h1,k1⟩:=hc 1 _ rfl
 obtain ⟨x2,h2,k2⟩:=hc 2 _ rfl
 obtain ⟨x3,h3,k3⟩:=hc 3 _ rfl
 obtain ⟨x4,h4,k4⟩:=hc 4 _ rfl
 obtain ⟨x,rfl,b0⟩:=cell_int Tryz.underlying2 k0
 obtain ⟨y,rfl,b1⟩:=cell_int Tryz.underlying2 k1
 obtain ⟨a,rfl,b2⟩:=cell_int Tryz.underlying2 k2
 obtain ⟨b,rfl,b3⟩:=cell_int Tryz.underlying2 k3
 obtain ⟨d,rfl,b4⟩:=cell_int Tryz.underlying2 k4
 refine ⟨x,y,a,b,d,?_,has_i64 b0,has_i64 b1,has_i64 b2,has_i64 b3,has_i64 b4⟩
 congr 1
 apply Array.ext_getElem?
 intro i
 rcases i with _|_|_|_|_|i
 ·exact h0
 ·exact h1
 ·exact h2
 ·exact h3
 ·exact h4
 ·rw [Array.getElem?_eq_none (by simp at hs;omega),Array.getElem?_eq_none (by simp)]
theorem open_strip {W:World} {base:Nat} {v:Value} (h:Value.okWide Tryz.prog W .any base 39 v):∃ a b c d e f,v=stC a b c d e f∧I64 a∧I64 b∧I64 c∧I64 d∧I64 e∧I64 f:=by
 obtain ⟨cs,rfl,hs,hc⟩:=okWide_cells Tryz.underlying39 (ts:=[2,2,2,2,2,2]) (by kernel_rfl) (by kernel_rfl) h
 obtain ⟨x0,h0,k0⟩:=hc 0 _ rfl
 obtain ⟨x1,h1,k1⟩:=hc 1 _ rfl
 obtain ⟨x2,h2,k2⟩:=hc 2 _ rfl
 obtain ⟨x3,h3,k3⟩:=hc 3 _ rfl
 obtain ⟨x4,h4,k4⟩:=hc 4 _ rfl
 obtain ⟨x5,h5,k5⟩:=hc 5 _ rfl
 obtain ⟨a,rfl,b0⟩:=cell_int Tryz.underlying2 k0
 obtain ⟨b,rfl,b1⟩:=cell_int Tryz.underlying2 k1
 obtain ⟨c,rfl,b2⟩:=cell_int Tryz.underlying2 k2
 obtain ⟨d,rfl,b3⟩:=cell_int Tryz.underlying2 k3
 obtain ⟨e,rfl,b4⟩:=cell_int Tryz.underlying2 k4
 obtain ⟨f,rfl,b5⟩:=cell_int Tryz.underlying2 k5
 refine ⟨a,b,c,d,e,f,?_,has_i64 b0,has_i64 b1,has_i64 b2,has_i64 b3,has_i64 b4,has_i64 b5⟩
 congr 1
 apply Array.ext_getElem?
 intro i
 rcases i with _|_|_|_|_|_|i
 ·exact h0
 ·exact h1
 ·exact h2
 ·exact h3
 ·exact h4
 ·exact h5
 ·rw [Array.getElem?_eq_none (by simp at hs;omega),Array.getElem?_eq_none (by simp)]
end Go.Proofs.YtilginoibhfeiaaGreat
