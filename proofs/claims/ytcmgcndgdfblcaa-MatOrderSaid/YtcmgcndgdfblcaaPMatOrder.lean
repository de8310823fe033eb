/- MatOrder: the statement. -/
import Derived.Test.YtcmgcndgdfblcaaRows
import Derived.Test.YtcmgcndgdfblcaaFr
import Derived.Test.YtcmgcndgdfblcaaL1
namespace Go.Proofs.Ytcmgcndgdfblcaa.matOrder
open Go.ChangeShapes Go.WideShapes Go.ChangeAt Go.RowKit
set_option linter.unusedVariables false

theorem own : ownKnob Try.prog.godebug = none := by kernel_rfl
theorem laidOut : laidOutB Try.prog = true := by kernel_rfl
theorem readable : ∀ t ∈ Try.f3.params.toList, Try.prog.readableRec t = true ∧ t < Try.prog.types.size := by
  rw [Try.params3]
  intro t ht
  simp at ht
  subst ht
  exact ⟨by kernel_rfl, of_decide_eq_true (by kernel_rfl)⟩
theorem open_sym {W : World} {base : Nat} {v : Value} (h : Value.okWide Try.prog W .any base 23 v) : ∃ a b d, v = symV a b d ∧ I64 a ∧ I64 b ∧ I64 d := by
  obtain ⟨cs, rfl, hs, hc⟩ := okWide_cells Try.underlying23 (ts := [2, 2, 2]) (by kernel_rfl) (by kernel_rfl) h
  obtain ⟨x0, h0, k0⟩ := hc 0 _ rfl
  obtain ⟨x1, h1, k1⟩ := hc 1 _ rfl
  obtain ⟨x2, h2, k2⟩ := hc 2 _ rfl
  obtain ⟨a, rfl, b0⟩ := cell_int Try.underlying2 k0
  obtain ⟨b, rfl, b1⟩ := cell_int Try.underlying2 k1
  obtain ⟨d, rfl, b2⟩ := cell_int Try.underlying2 k2
  refine ⟨a, b, d, ?_, has_i64 b0, has_i64 b1, has_i64 b2⟩
  congr 1
  apply Array.ext_getElem?
  intro i
  rcases i with _ | _ | _ | i
  · exact h0
  · exact h1
  · exact h2
  · rw [Array.getElem?_eq_none (by simp at hs; omega), Array.getElem?_eq_none (by simp)]

set_option maxRecDepth 100000 in
theorem lifted (os : Os) (started : os.Started) (H : Type) (enc : TypeId × Value → H) :
    ReturnsInHanded {} Try.checked os 3 .any (Rows.matOrderSpec.pre6 enc Try.prog Try.f3 Rows.matOrderRow.domain false) (Rows.matOrderSpec.post enc Try.prog Try.f3 false true false false) := by
  refine returnsInHanded_of_change (C := Try.checked) own started (by kernel_rfl) Try.func3
    (ChangeSpec.witness6 (enc := enc) (C := Try.checked) false ⟨#[], #[symV 0 0 0, symV 0 0 0, symV 0 0 0], []⟩ 8 (by kernel_rfl) (by kernel_rfl) (by kernel_rfl) (by kernel_rfl)) ?_
  intro W base args ds gs before hval0 hW hcnd _
  have hval : ∀ (j : Nat) t v, Try.f3.params[j]? = some t → args[j]? = some v → Value.okWide Try.prog W .any base t v := hval0
  have hW' := hW
  obtain ⟨p, q, hA0, hV, rfl, hfz, hnd⟩ := hW
  have hA : DataW.TrodAll enc Try.prog W 0 (fun _ => true) true Try.f3.params.toList args.toList ds p := hA0
  have again := fun W' (hb : Below W.heap.size W W') => trodAll_again laidOut hb _ _ _ _ readable hA
  rw [Try.params3] at hA hval
  obtain ⟨v0, vs0, d0, ds0, p0, q0, hargs, rfl, rfl, h0, r0⟩ := trodAll_cons hA
  obtain ⟨v1, vs1, d1, ds1, p1, q1, rfl, rfl, rfl, h1, r1⟩ := trodAll_cons r0
  obtain ⟨v2, vs2, d2, ds2, p2, q2, rfl, rfl, rfl, h2, r2⟩ := trodAll_cons r1
  obtain ⟨rfl, rfl, rfl⟩ := trodAll_nil r2
  obtain rfl : args = #[v0, v1, v2] := by cases args; simp_all
  obtain ⟨rfl, rfl⟩ := trodVars_none hV
  obtain ⟨a0, b0, e0, rfl, i0, j0, k0⟩ := open_sym (hval 0 _ v0 rfl rfl)
  obtain ⟨a1, b1, e1, rfl, i1, j1, k1⟩ := open_sym (hval 1 _ v1 rfl rfl)
  obtain ⟨a2, b2, e2, rfl, i2, j2, k2⟩ := open_sym (hval 2 _ v2 rfl rfl)
  clear hA0 hval0
  refine (matOrder_c a0 b0 e0 a1 b1 e1 a2 b2 e2 W).mono fun e W' ⟨he, bel⟩ => ?_
  subst he
  exact ⟨_, rfl, _, _, _, [], _, [], hW', trodAll_mk1 (shut_bool Try.underlying4 _), again W' bel, rfl, bel.frame _, fun h => by cases h⟩

theorem over : Rows.matOrderRow.holds Try.pinned (OpenSpec.ofChange Rows.matOrderSpec) :=
  OpenClaim.holds_of_wide 3 Try.f3 rfl rfl rfl rfl rfl rfl rfl ⟨rfl, rfl, rfl, rfl, rfl⟩ rfl rfl rfl rfl rfl (by kernel_rfl) Try.func3 (by kernel_rfl)
    (of_decide_eq_true (by kernel_rfl)) (by unfold Func.isWrapper; first | (rw [if_pos (by decide +kernel)]; kernel_rfl) | (rw [if_neg (by decide +kernel)]; exact ⟨rfl, rfl⟩))
    (fun os started H enc _ => lifted os started H enc)

theorem proved : Rows.MatOrderSaid := over
#print axioms proved
end Go.Proofs.Ytcmgcndgdfblcaa.matOrder
