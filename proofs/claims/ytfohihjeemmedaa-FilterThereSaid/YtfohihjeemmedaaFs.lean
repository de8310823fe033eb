/- The frame of rows on slices of calls of a filter, of points. -/
import Derived.Test.YtfohihjeemmedaaFc
import Derived.Test.YtfohihjeemmedaaSl
import Derived.Deep.Slices
import Derived.Deep.Fields
import Derived.ChangeSame
namespace Go.Proofs.Ytfohihjeemmedaa
open Go.ChangeShapes Go.WideShapes Go.ChangeAt Go.RowKit Go.Deep
set_option maxRecDepth 100000

theorem addr_add (b o k : Nat) : (⟨b, o, none⟩ : Addr).add k = ⟨b, o + k, none⟩ := by
  unfold Addr.add
  by_cases h : k = 0
  · subst h; rfl
  · rw [if_neg h]
section
variable {H : Type} {enc : TypeId × Value → H} {W : World} {base : Nat} {spare : Nat → Bool} {held : Bool} {n : Nat} {cs : List Value} {x : DataW H × List MemPlace}
theorem one_int (h : DataW.trod enc Try.prog W base spare held n 2 cs = some x) : ∃ a, cs = [.int .i64 a] := by
  obtain ⟨a, ha, -, -⟩ := DataW.trod_int Try.underlying2 h
  exact ⟨a, ha⟩
theorem one_int' (h : DataW.trod enc Try.prog W base spare held n 3 cs = some x) : ∃ a, cs = [.int .i64 a] := by
  obtain ⟨a, ha, -, -⟩ := DataW.trod_int Try.underlying3 h
  exact ⟨a, ha⟩
theorem trod_pt (h : DataW.trod enc Try.prog W base spare held n 23 cs = some x) : ∃ a b, cs = [.int .i64 a, .int .i64 b] := by
  obtain ⟨ys, n', hn', hy, hlen, hyl, hf⟩ := DataW.trod_struct Try.underlying23 h
  have e0 : Try.prog.cellsOf 2 = 1 := by kernel_rfl
  have e1 : Try.prog.cellsOf 23 = 2 := by kernel_rfl
  have s0 := List.getElem?_eq_getElem (l := ys) (i := 0) (by rw [hyl]; decide)
  have s1 := List.getElem?_eq_getElem (l := ys) (i := 1) (by rw [hyl]; decide)
  have h0 := hf 0 _ rfl
  have h1 := hf 1 _ rfl
  rw [s0] at h0
  rw [s1] at h1
  obtain ⟨a, ha⟩ := one_int h0
  obtain ⟨b, hb⟩ := one_int h1
  rw [e1] at hlen
  match cs, hlen with
  | [x0, x1], _ =>
    simp [e0] at ha hb
    subst ha; subst hb
    exact ⟨_, _, rfl⟩
theorem trod_sym (h : DataW.trod enc Try.prog W base spare held n 25 cs = some x) : ∃ a0 a1 a2, cs = [.int .i64 a0, .int .i64 a1, .int .i64 a2] := by
  obtain ⟨ys, n', hn', hy, hlen, hyl, hf⟩ := DataW.trod_struct Try.underlying25 h
  have e0 : Try.prog.cellsOf 2 = 1 := by kernel_rfl
  have et : Try.prog.cellsOf 25 = 3 := by kernel_rfl
  have s0 := List.getElem?_eq_getElem (l := ys) (i := 0) (by rw [hyl]; decide)
  have h0 := hf 0 _ rfl
  rw [s0] at h0
  have s1 := List.getElem?_eq_getElem (l := ys) (i := 1) (by rw [hyl]; decide)
  have h1 := hf 1 _ rfl
  rw [s1] at h1
  have s2 := List.getElem?_eq_getElem (l := ys) (i := 2) (by rw [hyl]; decide)
  have h2 := hf 2 _ rfl
  rw [s2] at h2
  obtain ⟨a0, ha0⟩ := one_int h0
  obtain ⟨a1, ha1⟩ := one_int h1
  obtain ⟨a2, ha2⟩ := one_int h2
  rw [et] at hlen
  match cs, hlen with
  | [x0, x1, x2], _ =>
    simp [e0] at ha0 ha1 ha2
    subst ha0
    subst ha1
    subst ha2
    exact ⟨_, _, _, rfl⟩
theorem trod_el (h : DataW.trod enc Try.prog W base spare held n 27 cs = some x) : ∃ a0 a1 a2 a3 a4, cs = [.int .i64 a0, .int .i64 a1, .int .i64 a2, .int .i64 a3, .int .i64 a4] := by
  obtain ⟨ys, n', hn', hy, hlen, hyl, hf⟩ := DataW.trod_struct Try.underlying27 h
  have e0 : Try.prog.cellsOf 23 = 2 := by kernel_rfl
  have e1 : Try.prog.cellsOf 25 = 3 := by kernel_rfl
  have et : Try.prog.cellsOf 27 = 5 := by kernel_rfl
  have s0 := List.getElem?_eq_getElem (l := ys) (i := 0) (by rw [hyl]; decide)
  have h0 := hf 0 _ rfl
  rw [s0] at h0
  have s1 := List.getElem?_eq_getElem (l := ys) (i := 1) (by rw [hyl]; decide)
  have h1 := hf 1 _ rfl
  rw [s1] at h1
  obtain ⟨a0, a1, ha0⟩ := trod_pt h0
  obtain ⟨a2, a3, a4, ha1⟩ := trod_sym h1
  rw [et] at hlen
  match cs, hlen with
  | [x0, x1, x2, x3, x4], _ =>
    simp [e0, e1] at ha0 ha1
    obtain ⟨rfl, rfl⟩ := ha0
    obtain ⟨rfl, rfl, rfl⟩ := ha1
    exact ⟨_, _, _, _, _, rfl⟩
theorem trod_call (h : DataW.trod enc Try.prog W base spare held n 51 cs = some x) : ∃ a0 a1 a2 a3 a4 a5 a6 a7 a8 a9 a10, cs = [.int .i64 a0, .int .i64 a1, .int .i64 a2, .int .i64 a3, .int .i64 a4, .int .i64 a5, .int .i64 a6, .int .i64 a7, .int .i64 a8, .int .i64 a9, .int .i64 a10] := by
  obtain ⟨ys, n', hn', hy, hlen, hyl, hf⟩ := DataW.trod_struct Try.underlying51 h
  have e0 : Try.prog.cellsOf 27 = 5 := by kernel_rfl
  have e1 : Try.prog.cellsOf 23 = 2 := by kernel_rfl
  have e2 : Try.prog.cellsOf 3 = 1 := by kernel_rfl
  have e3 : Try.prog.cellsOf 2 = 1 := by kernel_rfl
  have et : Try.prog.cellsOf 51 = 11 := by kernel_rfl
  have s0 := List.getElem?_eq_getElem (l := ys) (i := 0) (by rw [hyl]; decide)
  have h0 := hf 0 _ rfl
  rw [s0] at h0
  have s1 := List.getElem?_eq_getElem (l := ys) (i := 1) (by rw [hyl]; decide)
  have h1 := hf 1 _ rfl
  rw [s1] at h1
  have s2 := List.getElem?_eq_getElem (l := ys) (i := 2) (by rw [hyl]; decide)
  have h2 := hf 2 _ rfl
  rw [s2] at h2
  have s3 := List.getElem?_eq_getElem (l := ys) (i := 3) (by rw [hyl]; decide)
  have h3 := hf 3 _ rfl
  rw [s3] at h3
  have s4 := List.getElem?_eq_getElem (l := ys) (i := 4) (by rw [hyl]; decide)
  have h4 := hf 4 _ rfl
  rw [s4] at h4
  have s5 := List.getElem?_eq_getElem (l := ys) (i := 5) (by rw [hyl]; decide)
  have h5 := hf 5 _ rfl
  rw [s5] at h5
  obtain ⟨a0, ha0⟩ := one_int' h0
  obtain ⟨a1, a2, a3, a4, a5, ha1⟩ := trod_el h1
  obtain ⟨a6, a7, ha2⟩ := trod_pt h2
  obtain ⟨a8, ha3⟩ := one_int h3
  obtain ⟨a9, ha4⟩ := one_int h4
  obtain ⟨a10, ha5⟩ := one_int h5
  rw [et] at hlen
  match cs, hlen with
  | [x0, x1, x2, x3, x4, x5, x6, x7, x8, x9, x10], _ =>
    simp [e0, e1, e2, e3] at ha0 ha1 ha2 ha3 ha4 ha5
    subst ha0
    obtain ⟨rfl, rfl, rfl, rfl, rfl⟩ := ha1
    obtain ⟨rfl, rfl⟩ := ha2
    subst ha3
    subst ha4
    subst ha5
    exact ⟨_, _, _, _, _, _, _, _, _, _, _, rfl⟩
end
theorem open_pts {H : Type} {enc : TypeId × Value → H} {W : World} {base : Nat} {spare : Nat → Bool} {held : Bool} {v : Value} {d : DataW H} {p : List MemPlace} (hv : Value.okWide Try.prog W .any base 43 v)
    (h : DataW.Trod enc Try.prog W 0 spare held 43 v d p) : ∃ A len cap T, v = .slice A len cap ∧ PtsAt W A len T ∧ len ≤ 9223372036854775807 := by
  obtain ⟨a0, len, cap, rfl⟩ := okWide_slice Try.underlying43 hv
  obtain ⟨fuel, hf⟩ := h
  rcases open_slice Try.underlying43 hf with ⟨h0, -⟩ | ⟨a, len', cap', m, n, D, Pl, hcs, hb, hl, hm, hmm, hx, hi⟩
  · simp [Value.cells] at h0
    obtain ⟨rfl, rfl, rfl⟩ := h0
    exact ⟨_, _, _, fun _ => (0, 0), rfl, fun i hi => absurd hi (Nat.not_lt_zero i), Nat.zero_le _⟩
  · simp [Value.cells] at hcs
    obtain ⟨rfl, rfl, rfl⟩ := hcs
    have hC : Try.prog.cellsOf 23 = 2 := by kernel_rfl
    have hlm : len ≤ m := by rw [hmm]; split <;> omega
    have key : ∀ i, i < len → ∃ q : Int × Int, W.cell? (a.add (i * 2)) = some (.int .i64 q.1) ∧ W.cell? ((a.add (i * 2)).add 1) = some (.int .i64 q.2) := by
      intro i hil
      obtain ⟨cs', hc, ht'⟩ := hi i (by omega)
      rw [hC] at hc
      obtain ⟨_, hcl, hat⟩ := World.cells?_some hc
      obtain ⟨x, y, rfl⟩ := trod_pt ht'
      exact ⟨(x, y), hat 0 (by omega), hat 1 (by omega)⟩
    have hT : ∀ i, ∃ q : Int × Int, i < len → W.cell? (a.add (i * 2)) = some (.int .i64 q.1) ∧ W.cell? ((a.add (i * 2)).add 1) = some (.int .i64 q.2) := by
      intro i
      by_cases h : i < len
      · obtain ⟨q, h1⟩ := key i h
        exact ⟨q, fun _ => h1⟩
      · exact ⟨(0, 0), fun h' => absurd h' h⟩
    obtain ⟨T, hT'⟩ : ∃ T : Nat → Int × Int, ∀ i, i < len → W.cell? (a.add (i * 2)) = some (.int .i64 (T i).1) ∧ W.cell? ((a.add (i * 2)).add 1) = some (.int .i64 (T i).2) :=
      ⟨fun i => Classical.choose (hT i), fun i hi => Classical.choose_spec (hT i) hi⟩
    refine ⟨_, _, _, T, rfl, ?_, Nat.le_trans hl hm⟩
    intro i hi
    obtain ⟨h1, h2⟩ := hT' i hi
    obtain ⟨b, o, sp⟩ := a
    have hsp : sp = none := by
      obtain ⟨q, k1, -⟩ := key 0 (by omega)
      cases sp with
      | none => rfl
      | some k =>
        rw [Nat.zero_mul] at k1
        unfold World.cell? at k1
        simp [Addr.add] at k1
        split at k1 <;> simp at k1
    subst hsp
    rw [addr_add] at h1 h2
    rw [addr_add] at h2
    exact ⟨b, o, rfl, block_lt_of_cell h1, h1, h2⟩
theorem open_calls {H : Type} {enc : TypeId × Value → H} {W : World} {base : Nat} {spare : Nat → Bool} {held : Bool} {v : Value} {d : DataW H} {p : List MemPlace} (hv : Value.okWide Try.prog W .any base 54 v)
    (h : DataW.Trod enc Try.prog W 0 spare held 54 v d p) : ∃ A len cap T, v = .slice A len cap ∧ CallsAt W A len T ∧ len ≤ 9223372036854775807 := by
  obtain ⟨a0, len, cap, rfl⟩ := okWide_slice Try.underlying54 hv
  obtain ⟨fuel, hf⟩ := h
  rcases open_slice Try.underlying54 hf with ⟨h0, -⟩ | ⟨a, len', cap', m, n, D, Pl, hcs, hb, hl, hm, hmm, hx, hi⟩
  · simp [Value.cells] at h0
    obtain ⟨rfl, rfl, rfl⟩ := h0
    exact ⟨_, _, _, fun _ => ⟨0, 0, 0, 0, 0, 0, 0, 0, 0, 0, 0⟩, rfl, fun i hi => absurd hi (Nat.not_lt_zero i), Nat.zero_le _⟩
  · simp [Value.cells] at hcs
    obtain ⟨rfl, rfl, rfl⟩ := hcs
    have hC : Try.prog.cellsOf 51 = 11 := by kernel_rfl
    have hlm : len ≤ m := by rw [hmm]; split <;> omega
    have key : ∀ i, i < len → ∃ q : CallT, ∀ j v, q.cs[j]? = some v → W.cell? ((a.add (i * 11)).add j) = some v := by
      intro i hil
      obtain ⟨cs', hc, ht'⟩ := hi i (by omega)
      rw [hC] at hc
      obtain ⟨_, hcl, hat⟩ := World.cells?_some hc
      obtain ⟨x0, x1, x2, x3, x4, x5, x6, x7, x8, x9, x10, rfl⟩ := trod_call ht'
      refine ⟨⟨x0, x1, x2, x3, x4, x5, x6, x7, x8, x9, x10⟩, fun j v hj => ?_⟩
      have hj11 : j < 11 := by
        rcases Nat.lt_or_ge j 11 with h | h
        · exact h
        · rw [List.getElem?_eq_none (by simp [CallT.cs]; omega)] at hj; cases hj
      have := hat j hj11
      rw [this, ← hj]; rfl
    have hT : ∀ i, ∃ q : CallT, i < len → ∀ j v, q.cs[j]? = some v → W.cell? ((a.add (i * 11)).add j) = some v := by
      intro i
      by_cases h : i < len
      · obtain ⟨q, h1⟩ := key i h
        exact ⟨q, fun _ => h1⟩
      · exact ⟨⟨0, 0, 0, 0, 0, 0, 0, 0, 0, 0, 0⟩, fun h' => absurd h' h⟩
    obtain ⟨T, hT'⟩ : ∃ T : Nat → CallT, ∀ i, i < len → ∀ j v, (T i).cs[j]? = some v → W.cell? ((a.add (i * 11)).add j) = some v :=
      ⟨fun i => Classical.choose (hT i), fun i hi => Classical.choose_spec (hT i) hi⟩
    refine ⟨_, _, _, T, rfl, ?_, Nat.le_trans hl hm⟩
    intro i hi
    have h1 := hT' i hi
    obtain ⟨b, o, sp⟩ := a
    have hsp : sp = none := by
      obtain ⟨q, k1⟩ := key 0 (by omega)
      have k2 := k1 0 _ rfl
      cases sp with
      | none => rfl
      | some k =>
        rw [Nat.zero_mul] at k2
        unfold World.cell? at k2
        simp [Addr.add] at k2
        split at k2 <;> simp at k2
    subst hsp
    refine ⟨b, o, rfl, ?_, fun j v hj => ?_⟩
    · have := h1 0 _ rfl
      rw [addr_add, addr_add] at this
      exact block_lt_of_cell this
    · have := h1 j v hj
      rw [addr_add, addr_add] at this
      exact this
end Go.Proofs.Ytfohihjeemmedaa
