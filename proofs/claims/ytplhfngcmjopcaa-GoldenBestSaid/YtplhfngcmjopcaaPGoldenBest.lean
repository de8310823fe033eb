/- GoldenBest: the statement. -/
import Derived.Test.YtplhfngcmjopcaaRows
import Derived.Test.YtplhfngcmjopcaaFr
import Derived.Test.YtplhfngcmjopcaaG6
import Derived.Deep.Slices
import Derived.Deep.Fields
import Derived.ChangeSame
namespace Go.Proofs.Ytplhfngcmjopcaa.goldenBest
open Go.ChangeShapes Go.WideShapes Go.ChangeAt Go.RowKit Go.Deep
set_option linter.unusedVariables false

theorem own : ownKnob Try.prog.godebug = none := by kernel_rfl
theorem laidOut : laidOutB Try.prog = true := by kernel_rfl
theorem readable : ∀ t ∈ Try.f3.params.toList, Try.prog.readableRec t = true ∧ t < Try.prog.types.size := by
  rw [Try.params3]
  intro t ht
  simp at ht
  subst ht
  exact ⟨by kernel_rfl, of_decide_eq_true (by kernel_rfl)⟩
theorem addr_add (b o k : Nat) : (⟨b, o, none⟩ : Addr).add k = ⟨b, o + k, none⟩ := by
  unfold Addr.add
  by_cases h : k = 0
  · subst h; rfl
  · rw [if_neg h]
set_option maxRecDepth 100000 in
/-- The table that came in. -/
theorem open_tab {H : Type} {enc : TypeId × Value → H} {W : World} {base : Nat} {spare : Nat → Bool} {held : Bool} {v : Value} {d : DataW H} {p : List MemPlace} (hv : Value.okWide Try.prog W .any base 22 v)
    (h : DataW.Trod enc Try.prog W 0 spare held 22 v d p) : ∃ A len cap T, v = .slice A len cap ∧ TabAt W A len T ∧ len ≤ 9223372036854775807 := by
  obtain ⟨a0, len, cap, rfl⟩ := okWide_slice Try.underlying22 hv
  obtain ⟨fuel, hf⟩ := h
  rcases open_slice Try.underlying22 hf with ⟨h0, -⟩ | ⟨a, len', cap', m, n, D, Pl, hcs, hb, hl, hm, hmm, hx, hi⟩
  · simp [Value.cells] at h0
    obtain ⟨rfl, rfl, rfl⟩ := h0
    exact ⟨_, _, _, fun _ => (0, false), rfl, fun i hi => absurd hi (Nat.not_lt_zero i), Nat.zero_le _⟩
  · simp [Value.cells] at hcs
    obtain ⟨rfl, rfl, rfl⟩ := hcs
    have hC : Try.prog.cellsOf 27 = 2 := by kernel_rfl
    have hlm : len ≤ m := by rw [hmm]; split <;> omega
    have key : ∀ i, i < len → ∃ x y, W.cell? (a.add (i * 2)) = some (.int .i64 x) ∧ W.cell? ((a.add (i * 2)).add 1) = some (.bool y) := by
      intro i hil
      obtain ⟨cs', hc, ht'⟩ := hi i (by omega)
      rw [hC] at hc
      obtain ⟨_, hcl, hat⟩ := World.cells?_some hc
      obtain ⟨ys, n', hn', hy, hlen, hyl, hf⟩ := DataW.trod_struct Try.underlying27 ht'
      have h0 := hf 0 _ rfl
      have h1 := hf 1 _ rfl
      match cs', hcl with
      | [x0, x1], _ =>
        have c0 := hat 0 (by omega)
        have c1 := hat 1 (by omega)
        obtain ⟨s0, k0⟩ : ys[0]? = some (ys[0]'(by rw [hyl]; decide)) ∧ True := ⟨List.getElem?_eq_getElem _, trivial⟩
        obtain ⟨s1, k1⟩ : ys[1]? = some (ys[1]'(by rw [hyl]; decide)) ∧ True := ⟨List.getElem?_eq_getElem _, trivial⟩
        rw [s0] at h0
        rw [s1] at h1
        obtain ⟨x, hx0, -, -⟩ := DataW.trod_int Try.underlying2 h0
        obtain ⟨y, hy0, -⟩ := DataW.trod_bool Try.underlying4 h1
        have e0 : Try.prog.cellsOf 2 = 1 := by kernel_rfl
        have e1 : Try.prog.cellsOf 4 = 1 := by kernel_rfl
        simp [e0] at hx0
        simp [e1] at hy0
        subst hx0; subst hy0
        refine ⟨x, y, ?_, c1⟩
        have : (a.add (i * 2)).add 0 = a.add (i * 2) := rfl
        rw [this] at c0
        exact c0
    have hT : ∀ i, ∃ q : Int × Bool, i < len → W.cell? (a.add (i * 2)) = some (.int .i64 q.1) ∧ W.cell? ((a.add (i * 2)).add 1) = some (.bool q.2) := by
      intro i
      by_cases h : i < len
      · obtain ⟨x, y, h1, h2⟩ := key i h
        exact ⟨(x, y), fun _ => ⟨h1, h2⟩⟩
      · exact ⟨(0, false), fun h' => absurd h' h⟩
    obtain ⟨T, hT'⟩ : ∃ T : Nat → Int × Bool, ∀ i, i < len → W.cell? (a.add (i * 2)) = some (.int .i64 (T i).1) ∧ W.cell? ((a.add (i * 2)).add 1) = some (.bool (T i).2) :=
      ⟨fun i => Classical.choose (hT i), fun i hi => Classical.choose_spec (hT i) hi⟩
    refine ⟨_, _, _, T, rfl, ?_, Nat.le_trans hl hm⟩
    intro i hi
    obtain ⟨h1, h2⟩ := hT' i hi
    obtain ⟨b, o, sp⟩ := a
    have hsp : sp = none := by
      obtain ⟨x, y, k1, -⟩ := key 0 (by omega)
      cases sp with
      | none => rfl
      | some k =>
        rw [Nat.zero_mul] at k1
        unfold World.cell? at k1
        simp [Addr.add] at k1
        split at k1 <;> simp at k1
    subst hsp
    rw [addr_add] at h1 h2
    rw [addr_add] at h2
    exact ⟨b, o, rfl, block_lt_of_cell h1, h1, h2⟩

set_option maxRecDepth 100000 in
theorem lifted (os : Os) (started : os.Started) (H : Type) (enc : TypeId × Value → H) :
    ReturnsInHanded {} Try.checked os 3 .any (Rows.goldenBestSpec.pre6 enc Try.prog Try.f3 Rows.goldenBestRow.domain false) (Rows.goldenBestSpec.post enc Try.prog Try.f3 false true false false) := by
  refine returnsInHanded_of_change (C := Try.checked) own started (by kernel_rfl) Try.func3
    (ChangeSpec.witness6 (enc := enc) (C := Try.checked) false ⟨#[], #[.slice none 0 0], []⟩ 8 (by kernel_rfl) (by kernel_rfl) (by kernel_rfl) (by kernel_rfl)) ?_
  intro W base args ds gs before hval0 hW hcnd _
  have hval : ∀ (j : Nat) t v, Try.f3.params[j]? = some t → args[j]? = some v → Value.okWide Try.prog W .any base t v := hval0
  have hW' := hW
  obtain ⟨p, q, hA0, hV, rfl, hfz, hnd⟩ := hW
  have hA : DataW.TrodAll enc Try.prog W 0 (fun _ => true) true Try.f3.params.toList args.toList ds p := hA0
  have again := fun W' (hb : Below W.heap.size W W') => trodAll_again laidOut hb _ _ _ _ readable hA
  rw [Try.params3] at hA hval
  obtain ⟨v0, vs0, d0, ds0, p0, q0, hargs, rfl, rfl, h0, r0⟩ := trodAll_cons hA
  obtain ⟨rfl, rfl, rfl⟩ := trodAll_nil r0
  obtain rfl : args = #[v0] := by cases args; simp_all
  obtain ⟨rfl, rfl⟩ := trodVars_none hV
  obtain ⟨A, len, cap, T, rfl, hT, hlen⟩ := open_tab (hval 0 _ v0 rfl rfl) h0
  clear hA0 hval0
  refine (goldenBest_c A len cap T W hT hlen).mono fun e W' ⟨he, bel⟩ => ?_
  subst he
  exact ⟨_, rfl, _, _, _, [], _, [], hW', trodAll_mk1 (shut_bool Try.underlying4 _), again W' bel, rfl, bel.frame _, fun h => by cases h⟩

theorem over : Rows.goldenBestRow.holds Try.pinned (OpenSpec.ofChange Rows.goldenBestSpec) :=
  OpenClaim.holds_of_wide 3 Try.f3 rfl rfl rfl rfl rfl rfl rfl ⟨rfl, rfl, rfl, rfl, rfl⟩ rfl rfl rfl rfl rfl (by kernel_rfl) Try.func3 (by kernel_rfl)
    (of_decide_eq_true (by kernel_rfl)) (by unfold Func.isWrapper; first | (rw [if_pos (by decide +kernel)]; kernel_rfl) | (rw [if_neg (by decide +kernel)]; exact ⟨rfl, rfl⟩))
    (fun os started H enc _ => lifted os started H enc)

theorem proved : Rows.GoldenBestSaid := over
#print axioms proved
end Go.Proofs.Ytplhfngcmjopcaa.goldenBest
