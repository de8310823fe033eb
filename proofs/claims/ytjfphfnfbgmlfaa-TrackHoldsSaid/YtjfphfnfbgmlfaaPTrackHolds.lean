/- TrackHolds: for every input the law returns true; each argument reads behind the call as it read before. No condition. -/
import Derived.Test.YtjfphfnfbgmlfaaFe
import Derived.Test.YtjfphfnfbgmlfaaK3
import Derived.Deep.Slices
import Derived.Deep.Fields
import Derived.ChangeSame
namespace Go.Proofs.Ytjfphfnfbgmlfaa.trackHolds
open Go.ChangeShapes Go.WideShapes Go.ChangeAt Go.RowKit Go.Deep
set_option linter.unusedVariables false

theorem addr_add (b o k : Nat) : (⟨b, o, none⟩ : Addr).add k = ⟨b, o + k, none⟩ := by
  unfold Addr.add
  by_cases h : k = 0
  · subst h; rfl
  · rw [if_neg h]
set_option maxRecDepth 100000 in
/-- A slice of numbers that came in. -/
theorem open_ints {H : Type} {enc : TypeId × Value → H} {W : World} {base : Nat} {spare : Nat → Bool} {held : Bool} {v : Value} {d : DataW H} {p : List MemPlace} (hv : Value.okWide Try.prog W .any base 58 v)
    (h : DataW.Trod enc Try.prog W 0 spare held 58 v d p) : ∃ A len cap T, v = .slice A len cap ∧ IntsAt W A len T ∧ len ≤ 9223372036854775807 := by
  obtain ⟨a0, len, cap, rfl⟩ := okWide_slice Try.underlying58 hv
  obtain ⟨fuel, hf⟩ := h
  rcases open_slice Try.underlying58 hf with ⟨h0, -⟩ | ⟨a, len', cap', m, n, D, Pl, hcs, hb, hl, hm, hmm, hx, hi⟩
  · simp [Value.cells] at h0
    obtain ⟨rfl, rfl, rfl⟩ := h0
    exact ⟨_, _, _, fun _ => 0, rfl, fun i hi => absurd hi (Nat.not_lt_zero i), Nat.zero_le _⟩
  · simp [Value.cells] at hcs
    obtain ⟨rfl, rfl, rfl⟩ := hcs
    have hC : Try.prog.cellsOf 3 = 1 := by kernel_rfl
    have hlm : len ≤ m := by rw [hmm]; split <;> omega
    have key : ∀ i, i < len → ∃ x, W.cell? (a.add i) = some (.int .i64 x) := by
      intro i hil
      obtain ⟨cs', hc, ht'⟩ := hi i (by omega)
      rw [hC] at hc
      obtain ⟨_, hcl, hat⟩ := World.cells?_some hc
      obtain ⟨x, hx0, -, -⟩ := DataW.trod_int Try.underlying3 ht'
      have c0 := hat 0 (by omega)
      rw [hx0, Nat.mul_one] at c0
      exact ⟨x, c0⟩
    have hT : ∀ i, ∃ q : Int, i < len → W.cell? (a.add i) = some (.int .i64 q) := by
      intro i
      by_cases h : i < len
      · obtain ⟨x, h1⟩ := key i h
        exact ⟨x, fun _ => h1⟩
      · exact ⟨0, fun h' => absurd h' h⟩
    obtain ⟨T, hT'⟩ : ∃ T : Nat → Int, ∀ i, i < len → W.cell? (a.add i) = some (.int .i64 (T i)) :=
      ⟨fun i => Classical.choose (hT i), fun i hi => Classical.choose_spec (hT i) hi⟩
    refine ⟨_, _, _, T, rfl, ?_, Nat.le_trans hl hm⟩
    intro i hi
    have h1 := hT' i hi
    obtain ⟨b, o, sp⟩ := a
    have hsp : sp = none := by
      obtain ⟨x, k1⟩ := key 0 (by omega)
      cases sp with
      | none => rfl
      | some k =>
        unfold World.cell? at k1
        simp [Addr.add] at k1
        split at k1 <;> simp at k1
    subst hsp
    rw [addr_add] at h1
    exact ⟨b, o, rfl, block_lt_of_cell h1, h1⟩

set_option maxRecDepth 100000 in
/-- A slice of points that came in. -/
theorem open_pts {H : Type} {enc : TypeId × Value → H} {W : World} {base : Nat} {spare : Nat → Bool} {held : Bool} {v : Value} {d : DataW H} {p : List MemPlace} (hv : Value.okWide Try.prog W .any base 57 v)
    (h : DataW.Trod enc Try.prog W 0 spare held 57 v d p) : ∃ A len cap T, v = .slice A len cap ∧ PtsAt W A len T ∧ len ≤ 9223372036854775807 := by
  obtain ⟨a0, len, cap, rfl⟩ := okWide_slice Try.underlying57 hv
  obtain ⟨fuel, hf⟩ := h
  rcases open_slice Try.underlying57 hf with ⟨h0, -⟩ | ⟨a, len', cap', m, n, D, Pl, hcs, hb, hl, hm, hmm, hx, hi⟩
  · simp [Value.cells] at h0
    obtain ⟨rfl, rfl, rfl⟩ := h0
    exact ⟨_, _, _, fun _ => (0, 0), rfl, fun i hi => absurd hi (Nat.not_lt_zero i), Nat.zero_le _⟩
  · simp [Value.cells] at hcs
    obtain ⟨rfl, rfl, rfl⟩ := hcs
    have hC : Try.prog.cellsOf 23 = 2 := by kernel_rfl
    have hlm : len ≤ m := by rw [hmm]; split <;> omega
    have key : ∀ i, i < len → ∃ x y, W.cell? (a.add (i * 2)) = some (.int .i64 x) ∧ W.cell? ((a.add (i * 2)).add 1) = some (.int .i64 y) := by
      intro i hil
      obtain ⟨cs', hc, ht'⟩ := hi i (by omega)
      rw [hC] at hc
      obtain ⟨_, hcl, hat⟩ := World.cells?_some hc
      obtain ⟨ys, n', hn', hy, hlen, hyl, hf⟩ := DataW.trod_struct Try.underlying23 ht'
      have h0 := hf 0 _ rfl
      have h1 := hf 1 _ rfl
      match cs', hcl with
      | [x0, x1], _ =>
        have c0 := hat 0 (by omega)
        have c1 := hat 1 (by omega)
        obtain ⟨s0, k0⟩ : ys[0]? = some (ys[0]'(by rw [hyl]; decide)) ∧ True := ⟨List.getElem?_eq_getElem _, trivial⟩
        obtain ⟨s1, k1⟩ : ys[1]? = some (ys[1]'(by rw [hyl]; decide)) ∧ True := ⟨List.getElem?_eq_getElem _, trivial⟩
        rw [s0] at h0
        rw [s1] at h1
        obtain ⟨x, hx0, -, -⟩ := DataW.trod_int Try.underlying2 h0
        obtain ⟨y, hy0, -, -⟩ := DataW.trod_int Try.underlying2 h1
        have e0 : Try.prog.cellsOf 2 = 1 := by kernel_rfl
        simp [e0] at hx0
        simp [e0] at hy0
        subst hx0; subst hy0
        refine ⟨x, y, ?_, c1⟩
        have : (a.add (i * 2)).add 0 = a.add (i * 2) := rfl
        rw [this] at c0
        exact c0
    have hT : ∀ i, ∃ q : Int × Int, i < len → W.cell? (a.add (i * 2)) = some (.int .i64 q.1) ∧ W.cell? ((a.add (i * 2)).add 1) = some (.int .i64 q.2) := by
      intro i
      by_cases h : i < len
      · obtain ⟨x, y, h1, h2⟩ := key i h
        exact ⟨(x, y), fun _ => ⟨h1, h2⟩⟩
      · exact ⟨(0, 0), fun h' => absurd h' h⟩
    obtain ⟨T, hT'⟩ : ∃ T : Nat → Int × Int, ∀ i, i < len → W.cell? (a.add (i * 2)) = some (.int .i64 (T i).1) ∧ W.cell? ((a.add (i * 2)).add 1) = some (.int .i64 (T i).2) :=
      ⟨fun i => Classical.choose (hT i), fun i hi => Classical.choose_spec (hT i) hi⟩
    refine ⟨_, _, _, T, rfl, ?_, Nat.le_trans hl hm⟩
    intro i hi
    obtain ⟨h1, h2⟩ := hT' i hi
    obtain ⟨b, o, sp⟩ := a
    have hsp : sp = none := by
      obtain ⟨x, y, k1, -⟩ := key 0 (by omega)
      cases sp with
      | none => rfl
      | some k =>
        rw [Nat.zero_mul] at k1
        unfold World.cell? at k1
        simp [Addr.add] at k1
        split at k1 <;> simp at k1
    subst hsp
    rw [addr_add] at h1 h2
    rw [addr_add] at h2
    exact ⟨b, o, rfl, block_lt_of_cell h1, h1, h2⟩

theorem readable : ∀ t ∈ Try.f8.params.toList, Try.prog.readableRec t = true ∧ t < Try.prog.types.size := by
  rw [Try.params8]
  intro t ht
  simp at ht
  repeat' (rcases ht with rfl | ht)
  all_goals first | exact ⟨by kernel_rfl, of_decide_eq_true (by kernel_rfl)⟩ | (subst ht; exact ⟨by kernel_rfl, of_decide_eq_true (by kernel_rfl)⟩)

set_option maxRecDepth 100000 in
theorem lifted (os : Os) (started : os.Started) (H : Type) (enc : TypeId × Value → H) :
    ReturnsInHanded {} Try.checked os 8 .any (Rows.trackHoldsSpec.pre6 enc Try.prog Try.f8 Rows.trackHoldsRow.domain false) (Rows.trackHoldsSpec.post enc Try.prog Try.f8 false true false false) := by
  refine returnsInHanded_of_change (C := Try.checked) own started (by kernel_rfl) Try.func8
    (ChangeSpec.witness6 (enc := enc) (C := Try.checked) false ⟨#[], #[elC 0 0 0 0 0, ptV 0 0, .int .i64 0, .slice none 0 0, .slice none 0 0, .int .i64 0, .int .i64 0, .int .i64 0, .int .i64 0], []⟩ 8 (by kernel_rfl) (by kernel_rfl) (by kernel_rfl) (by kernel_rfl)) ?_
  intro W base args ds gs before hval0 hW hcnd _
  have hval : ∀ (j : Nat) t v, Try.f8.params[j]? = some t → args[j]? = some v → Value.okWide Try.prog W .any base t v := hval0
  have hW' := hW
  obtain ⟨p, q, hA0, hV, rfl, hfz, hnd⟩ := hW
  have hA : DataW.TrodAll enc Try.prog W 0 (fun _ => true) true Try.f8.params.toList args.toList ds p := hA0
  have again := fun W' (hb : Below W.heap.size W W') => trodAll_again laidOut hb _ _ _ _ readable hA
  rw [Try.params8] at hA hval
  obtain ⟨v0, vs0, d0, ds0, p0, q0, hargs, rfl, rfl, g0, r0⟩ := trodAll_cons hA
  obtain ⟨v1, vs1, d1, ds1, p1, q1, rfl, rfl, rfl, g1, r1⟩ := trodAll_cons r0
  obtain ⟨v2, vs2, d2, ds2, p2, q2, rfl, rfl, rfl, g2, r2⟩ := trodAll_cons r1
  obtain ⟨v3, vs3, d3, ds3, p3, q3, rfl, rfl, rfl, g3, r3⟩ := trodAll_cons r2
  obtain ⟨v4, vs4, d4, ds4, p4, q4, rfl, rfl, rfl, g4, r4⟩ := trodAll_cons r3
  obtain ⟨v5, vs5, d5, ds5, p5, q5, rfl, rfl, rfl, g5, r5⟩ := trodAll_cons r4
  obtain ⟨v6, vs6, d6, ds6, p6, q6, rfl, rfl, rfl, g6, r6⟩ := trodAll_cons r5
  obtain ⟨v7, vs7, d7, ds7, p7, q7, rfl, rfl, rfl, g7, r7⟩ := trodAll_cons r6
  obtain ⟨v8, vs8, d8, ds8, p8, q8, rfl, rfl, rfl, g8, r8⟩ := trodAll_cons r7
  obtain ⟨rfl, rfl, rfl⟩ := trodAll_nil r8
  obtain rfl : args = #[v0, v1, v2, v3, v4, v5, v6, v7, v8] := by cases args; simp_all
  obtain ⟨rfl, rfl⟩ := trodVars_none hV
  obtain ⟨x0, x1, x2, x3, x4, rfl, -⟩ := open_el (hval 0 _ v0 rfl rfl)
  obtain ⟨y0, y1, rfl, -⟩ := open_pt (hval 1 _ v1 rfl rfl)
  obtain ⟨n2, rfl, -⟩ := open_i64 (hval 2 _ v2 rfl rfl)
  obtain ⟨A, len, cap, T, rfl, hT, hlen⟩ := open_pts (hval 3 _ v3 rfl rfl) g3
  obtain ⟨A', len', cap', T', rfl, hT', hlen'⟩ := open_ints (hval 4 _ v4 rfl rfl) g4
  obtain ⟨n5, rfl, -⟩ := open_i64 (hval 5 _ v5 rfl rfl)
  obtain ⟨n6, rfl, -⟩ := open_i64 (hval 6 _ v6 rfl rfl)
  obtain ⟨n7, rfl, -⟩ := open_i64 (hval 7 _ v7 rfl rfl)
  obtain ⟨n8, rfl, -⟩ := open_i64 (hval 8 _ v8 rfl rfl)
  clear hA0 hval0
  refine (trackHolds_c x0 x1 x2 x3 x4 y0 y1 n2 A len cap T A' len' cap' T' n5 n6 n7 n8 W hT hT' hlen hlen').mono fun e W' ⟨he, bel⟩ => ?_
  subst he
  exact ⟨_, rfl, _, _, _, [], _, [], hW', trodAll_mk1 (shut_bool Try.underlying4 _), again W' bel, rfl, bel.frame _, fun h => by cases h⟩

theorem over : Rows.trackHoldsRow.holds Try.pinned (OpenSpec.ofChange Rows.trackHoldsSpec) :=
  OpenClaim.holds_of_wide 8 Try.f8 rfl rfl rfl rfl rfl rfl rfl ⟨rfl, rfl, rfl, rfl, rfl⟩ rfl rfl rfl rfl rfl (by kernel_rfl) Try.func8 (by kernel_rfl)
    (of_decide_eq_true (by kernel_rfl)) (by unfold Func.isWrapper; first | (rw [if_pos (by decide +kernel)]; kernel_rfl) | (rw [if_neg (by decide +kernel)]; exact ⟨rfl, rfl⟩))
    (fun os started H enc _ => lifted os started H enc)

theorem proved : Rows.TrackHoldsSaid := over
#print axioms proved
end Go.Proofs.Ytjfphfnfbgmlfaa.trackHolds
