/- The frame of rows on slices of a filter's steps. -/
import Derived.Test.YtilginoibhfeiaaGreatFe
import Derived.Test.YtilginoibhfeiaaGreatS8
import Derived.Deep.Slices
import Derived.Deep.Fields
import Derived.ChangeSame
namespace Go.Proofs.YtilginoibhfeiaaGreat
open Go.ChangeShapes Go.WideShapes Go.ChangeAt Go.RowKit Go.Deep
set_option maxRecDepth 100000

theorem addr_add (b o k : Nat) : (⟨b, o, none⟩ : Addr).add k = ⟨b, o + k, none⟩ := by
  unfold Addr.add
  by_cases h : k = 0
  · subst h; rfl
  · rw [if_neg h]
section
variable {H : Type} {enc : TypeId × Value → H} {W : World} {base : Nat} {spare : Nat → Bool} {held : Bool} {n : Nat} {cs : List Value} {x : DataW H × List MemPlace}
theorem one_int (h : DataW.trod enc Tryz.prog W base spare held n 2 cs = some x) : ∃ a, cs = [.int .i64 a] := by
  obtain ⟨a, ha, -, -⟩ := DataW.trod_int Tryz.underlying2 h
  exact ⟨a, ha⟩
theorem one_int' (h : DataW.trod enc Tryz.prog W base spare held n 3 cs = some x) : ∃ a, cs = [.int .i64 a] := by
  obtain ⟨a, ha, -, -⟩ := DataW.trod_int Tryz.underlying3 h
  exact ⟨a, ha⟩
theorem trod_pt (h : DataW.trod enc Tryz.prog W base spare held n 23 cs = some x) : ∃ a b, cs = [.int .i64 a, .int .i64 b] := by
  obtain ⟨ys, n', hn', hy, hlen, hyl, hf⟩ := DataW.trod_struct Tryz.underlying23 h
  have e0 : Tryz.prog.cellsOf 2 = 1 := by kernel_rfl
  have e1 : Tryz.prog.cellsOf 23 = 2 := by kernel_rfl
  have s0 := List.getElem?_eq_getElem (l := ys) (i := 0) (by rw [hyl]; decide)
  have s1 := List.getElem?_eq_getElem (l := ys) (i := 1) (by rw [hyl]; decide)
  have h0 := hf 0 _ rfl
  have h1 := hf 1 _ rfl
  rw [s0] at h0
  rw [s1] at h1
  obtain ⟨a, ha⟩ := one_int h0
  obtain ⟨b, hb⟩ := one_int h1
  rw [e1] at hlen
  match cs, hlen with
  | [x0, x1], _ =>
    simp [e0] at ha hb
    subst ha; subst hb
    exact ⟨_, _, rfl⟩
theorem trod_sym (h : DataW.trod enc Tryz.prog W base spare held n 25 cs = some x) : ∃ a0 a1 a2, cs = [.int .i64 a0, .int .i64 a1, .int .i64 a2] := by
  obtain ⟨ys, n', hn', hy, hlen, hyl, hf⟩ := DataW.trod_struct Tryz.underlying25 h
  have e0 : Tryz.prog.cellsOf 2 = 1 := by kernel_rfl
  have et : Tryz.prog.cellsOf 25 = 3 := by kernel_rfl
  have s0 := List.getElem?_eq_getElem (l := ys) (i := 0) (by rw [hyl]; decide)
  have h0 := hf 0 _ rfl
  rw [s0] at h0
  have s1 := List.getElem?_eq_getElem (l := ys) (i := 1) (by rw [hyl]; decide)
  have h1 := hf 1 _ rfl
  rw [s1] at h1
  have s2 := List.getElem?_eq_getElem (l := ys) (i := 2) (by rw [hyl]; decide)
  have h2 := hf 2 _ rfl
  rw [s2] at h2
  obtain ⟨a0, ha0⟩ := one_int h0
  obtain ⟨a1, ha1⟩ := one_int h1
  obtain ⟨a2, ha2⟩ := one_int h2
  rw [et] at hlen
  match cs, hlen with
  | [x0, x1, x2], _ =>
    simp [e0] at ha0 ha1 ha2
    subst ha0
    subst ha1
    subst ha2
    exact ⟨_, _, _, rfl⟩
theorem trod_el (h : DataW.trod enc Tryz.prog W base spare held n 27 cs = some x) : ∃ a0 a1 a2 a3 a4, cs = [.int .i64 a0, .int .i64 a1, .int .i64 a2, .int .i64 a3, .int .i64 a4] := by
  obtain ⟨ys, n', hn', hy, hlen, hyl, hf⟩ := DataW.trod_struct Tryz.underlying27 h
  have e0 : Tryz.prog.cellsOf 23 = 2 := by kernel_rfl
  have e1 : Tryz.prog.cellsOf 25 = 3 := by kernel_rfl
  have et : Tryz.prog.cellsOf 27 = 5 := by kernel_rfl
  have s0 := List.getElem?_eq_getElem (l := ys) (i := 0) (by rw [hyl]; decide)
  have h0 := hf 0 _ rfl
  rw [s0] at h0
  have s1 := List.getElem?_eq_getElem (l := ys) (i := 1) (by rw [hyl]; decide)
  have h1 := hf 1 _ rfl
  rw [s1] at h1
  obtain ⟨a0, a1, ha0⟩ := trod_pt h0
  obtain ⟨a2, a3, a4, ha1⟩ := trod_sym h1
  rw [et] at hlen
  match cs, hlen with
  | [x0, x1, x2, x3, x4], _ =>
    simp [e0, e1] at ha0 ha1
    obtain ⟨rfl, rfl⟩ := ha0
    obtain ⟨rfl, rfl, rfl⟩ := ha1
    exact ⟨_, _, _, _, _, rfl⟩
theorem trod_walk (h : DataW.trod enc Tryz.prog W base spare held n 50 cs = some x) : ∃ a0 a1 a2 a3 a4 a5 a6 a7 a8 a9 a10 a11 a12 a13, cs = [.int .i64 a0, .int .i64 a1, .int .i64 a2, .int .i64 a3, .int .i64 a4, .int .i64 a5, .int .i64 a6, .int .i64 a7, .int .i64 a8, .int .i64 a9, .int .i64 a10, .int .i64 a11, .int .i64 a12, .int .i64 a13] := by
  obtain ⟨ys, n', hn', hy, hlen, hyl, hf⟩ := DataW.trod_struct Tryz.underlying50 h
  have e0 : Tryz.prog.cellsOf 3 = 1 := by kernel_rfl
  have e1 : Tryz.prog.cellsOf 23 = 2 := by kernel_rfl
  have e2 : Tryz.prog.cellsOf 27 = 5 := by kernel_rfl
  have e3 : Tryz.prog.cellsOf 2 = 1 := by kernel_rfl
  have et : Tryz.prog.cellsOf 50 = 14 := by kernel_rfl
  have s0 := List.getElem?_eq_getElem (l := ys) (i := 0) (by rw [hyl]; decide)
  have h0 := hf 0 _ rfl
  rw [s0] at h0
  have s1 := List.getElem?_eq_getElem (l := ys) (i := 1) (by rw [hyl]; decide)
  have h1 := hf 1 _ rfl
  rw [s1] at h1
  have s2 := List.getElem?_eq_getElem (l := ys) (i := 2) (by rw [hyl]; decide)
  have h2 := hf 2 _ rfl
  rw [s2] at h2
  have s3 := List.getElem?_eq_getElem (l := ys) (i := 3) (by rw [hyl]; decide)
  have h3 := hf 3 _ rfl
  rw [s3] at h3
  have s4 := List.getElem?_eq_getElem (l := ys) (i := 4) (by rw [hyl]; decide)
  have h4 := hf 4 _ rfl
  rw [s4] at h4
  have s5 := List.getElem?_eq_getElem (l := ys) (i := 5) (by rw [hyl]; decide)
  have h5 := hf 5 _ rfl
  rw [s5] at h5
  have s6 := List.getElem?_eq_getElem (l := ys) (i := 6) (by rw [hyl]; decide)
  have h6 := hf 6 _ rfl
  rw [s6] at h6
  obtain ⟨a0, ha0⟩ := one_int' h0
  obtain ⟨a1, a2, ha1⟩ := trod_pt h1
  obtain ⟨a3, a4, ha2⟩ := trod_pt h2
  obtain ⟨a5, a6, a7, a8, a9, ha3⟩ := trod_el h3
  obtain ⟨a10, a11, ha4⟩ := trod_pt h4
  obtain ⟨a12, ha5⟩ := one_int h5
  obtain ⟨a13, ha6⟩ := one_int h6
  rw [et] at hlen
  match cs, hlen with
  | [x0, x1, x2, x3, x4, x5, x6, x7, x8, x9, x10, x11, x12, x13], _ =>
    simp [e0, e1, e2, e3] at ha0 ha1 ha2 ha3 ha4 ha5 ha6
    subst ha0
    obtain ⟨rfl, rfl⟩ := ha1
    obtain ⟨rfl, rfl⟩ := ha2
    obtain ⟨rfl, rfl, rfl, rfl, rfl⟩ := ha3
    obtain ⟨rfl, rfl⟩ := ha4
    subst ha5
    subst ha6
    exact ⟨_, _, _, _, _, _, _, _, _, _, _, _, _, _, rfl⟩
end
theorem open_walks {H : Type} {enc : TypeId × Value → H} {W : World} {base : Nat} {spare : Nat → Bool} {held : Bool} {v : Value} {d : DataW H} {p : List MemPlace} (hv : Value.okWide Tryz.prog W .any base 45 v)
    (h : DataW.Trod enc Tryz.prog W 0 spare held 45 v d p) : ∃ A len cap T, v = .slice A len cap ∧ WalksAt W A len T ∧ len ≤ 9223372036854775807 := by
  obtain ⟨a0, len, cap, rfl⟩ := okWide_slice Tryz.underlying45 hv
  obtain ⟨fuel, hf⟩ := h
  rcases open_slice Tryz.underlying45 hf with ⟨h0, -⟩ | ⟨a, len', cap', m, n, D, Pl, hcs, hb, hl, hm, hmm, hx, hi⟩
  · simp [Value.cells] at h0
    obtain ⟨rfl, rfl, rfl⟩ := h0
    exact ⟨_, _, _, fun _ _ => 0, rfl, fun i hi => absurd hi (Nat.not_lt_zero i), Nat.zero_le _⟩
  · simp [Value.cells] at hcs
    obtain ⟨rfl, rfl, rfl⟩ := hcs
    have hC : Tryz.prog.cellsOf 50 = 14 := by kernel_rfl
    have hlm : len ≤ m := by rw [hmm]; split <;> omega
    have key : ∀ i, i < len → ∃ q : Nat → Int, ∀ j, j < 14 → W.cell? ((a.add (i * 14)).add j) = some (.int .i64 (q j)) := by
      intro i hil
      obtain ⟨cs', hc, ht'⟩ := hi i (by omega)
      rw [hC] at hc
      obtain ⟨_, hcl, hat⟩ := World.cells?_some hc
      obtain ⟨x0, x1, x2, x3, x4, x5, x6, x7, x8, x9, x10, x11, x12, x13, rfl⟩ := trod_walk ht'
      refine ⟨fun j => [x0, x1, x2, x3, x4, x5, x6, x7, x8, x9, x10, x11, x12, x13].getD j 0, fun j hj => ?_⟩
      have := hat j hj
      rw [this]
      rcases j with _ | _ | _ | _ | _ | _ | _ | _ | _ | _ | _ | _ | _ | _ | j
      all_goals first | rfl | (exfalso; omega)
    have hT : ∀ i, ∃ q : Nat → Int, i < len → ∀ j, j < 14 → W.cell? ((a.add (i * 14)).add j) = some (.int .i64 (q j)) := by
      intro i
      by_cases h : i < len
      · obtain ⟨q, h1⟩ := key i h
        exact ⟨q, fun _ => h1⟩
      · exact ⟨fun _ => 0, fun h' => absurd h' h⟩
    obtain ⟨T, hT'⟩ : ∃ T : Nat → Nat → Int, ∀ i, i < len → ∀ j, j < 14 → W.cell? ((a.add (i * 14)).add j) = some (.int .i64 (T i j)) :=
      ⟨fun i => Classical.choose (hT i), fun i hi => Classical.choose_spec (hT i) hi⟩
    refine ⟨_, _, _, T, rfl, ?_, Nat.le_trans hl hm⟩
    intro i hi
    have h1 := hT' i hi
    obtain ⟨b, o, sp⟩ := a
    have hsp : sp = none := by
      obtain ⟨q, k1⟩ := key 0 (by omega)
      have k2 := k1 0 (by decide)
      cases sp with
      | none => rfl
      | some k =>
        rw [Nat.zero_mul] at k2
        unfold World.cell? at k2
        simp [Addr.add] at k2
        split at k2 <;> simp at k2
    subst hsp
    refine ⟨b, o, rfl, ?_, fun j hj => ?_⟩
    · have := h1 0 (by decide)
      rw [addr_add, addr_add] at this
      exact block_lt_of_cell this
    · have := h1 j hj
      rw [addr_add, addr_add] at this
      exact this
end Go.Proofs.YtilginoibhfeiaaGreat
