/- The frame of rows on frames, bytes. The frame of rows on slices of bytes and of numbers that came in. -/
import Derived.Test.YtdipecepgfaokaaFe
import Derived.Test.YtdipecepgfaokaaN4
import Derived.Test.YtdipecepgfaokaaND
import Derived.Deep.Slices
import Derived.Deep.Fields
import Derived.ChangeSame
namespace Go.Proofs.Ytdipecepgfaokaa
set_option linter.unusedSimpArgs false
set_option linter.unusedVariables false
open Go.ChangeShapes Go.WideShapes Go.ChangeAt Go.RowKit
set_option maxRecDepth 100000
theorem okWide_arr {P : Program} {W : World} {r : Reach} {base : Nat} {t u : TypeId} {v : Value} {n : Nat} {ts : List TypeId} (hu : P.underlying t = some (.array n u)) (hts : P.cellTypes P.depth t = some ts) (h1 : ∀ z ∈ ts, z = u) (hc : P.cellsOf t = n)
    (h : Value.okWide P W r base t v) : ∃ cs : Array Value, v = .agg cs ∧ cs.size = n ∧ ∀ (i : Nat), i < n → ∃ x, cs[i]? = some x ∧ Cell.okWide P W r base u x := by
  unfold Value.okWide at h
  rw [hu] at h
  obtain ⟨cs, rfl, hs, ts', hts', _, hcell⟩ := h
  rw [hts] at hts'
  obtain rfl := Option.some.inj hts'
  refine ⟨cs, rfl, by omega, fun i hi => ?_⟩
  have hlt' : i < cs.size := by omega
  refine ⟨cs[i], Array.getElem?_eq_getElem hlt', ?_⟩
  obtain ⟨u', hu', hc'⟩ := hcell i cs[i] (Array.getElem?_eq_getElem hlt')
  rw [h1 u' (List.mem_of_getElem? hu')] at hc'
  exact hc'
def U8 (n : Int) : Prop := 0 ≤ n ∧ n < 256
theorem has_u8 {n : Int} (h : IntKind.u8.has n) : U8 n := by
  have h : (0 : Int) ≤ n ∧ n ≤ 255 := h
  unfold U8; omega
theorem open_u8 {W : World} {base : Nat} {v : Value} (h : Value.okWide Try.prog W .any base 5 v) : ∃ n, v = .int .u8 n ∧ U8 n := by
  obtain ⟨n, rfl, hn⟩ := okWide_int_has Try.underlying5 h
  exact ⟨n, rfl, has_u8 hn⟩
theorem open_by4 {W : World} {base : Nat} {v : Value} (h : Value.okWide Try.prog W .any base 45 v) : ∃ a b c d, v = .agg #[.int .u8 a, .int .u8 b, .int .u8 c, .int .u8 d] ∧ U8 a ∧ U8 b ∧ U8 c ∧ U8 d := by
  obtain ⟨cs, rfl, hs, hc⟩ := okWide_arr Try.underlying45 (ts := [5, 5, 5, 5]) (by kernel_rfl) (by intro z hz; simp at hz; exact hz) (by kernel_rfl) h
  obtain ⟨x0, h0, k0⟩ := hc 0 (by decide)
  obtain ⟨x1, h1, k1⟩ := hc 1 (by decide)
  obtain ⟨x2, h2, k2⟩ := hc 2 (by decide)
  obtain ⟨x3, h3, k3⟩ := hc 3 (by decide)
  obtain ⟨a, rfl, b0⟩ := cell_int Try.underlying5 k0
  obtain ⟨b, rfl, b1⟩ := cell_int Try.underlying5 k1
  obtain ⟨c, rfl, b2⟩ := cell_int Try.underlying5 k2
  obtain ⟨d, rfl, b3⟩ := cell_int Try.underlying5 k3
  refine ⟨a, b, c, d, ?_, has_u8 b0, has_u8 b1, has_u8 b2, has_u8 b3⟩
  congr 1
  apply Array.ext_getElem?
  intro i
  rcases i with _ | _ | _ | _ | i
  · exact h0
  · exact h1
  · exact h2
  · exact h3
  · rw [Array.getElem?_eq_none (by first | omega | (simp at hs; omega)), Array.getElem?_eq_none (by simp)]
theorem open_fr {W : World} {base : Nat} {v : Value} (h : Value.okWide Try.prog W .any base 29 v) : ∃ k s bo sq st ds ta tb wh wn x y a b d, v = frC k s bo sq st ds ta tb wh wn x y a b d ∧ I64 k ∧ I64 s ∧ I64 bo ∧ I64 sq ∧ I64 st ∧ I64 ds ∧ I64 ta ∧ I64 tb ∧ I64 wh ∧ I64 wn ∧ I64 x ∧ I64 y ∧ I64 a ∧ I64 b ∧ I64 d := by
  obtain ⟨cs, rfl, hs, hc⟩ := okWide_cells Try.underlying29 (ts := [3, 3, 3, 3, 2, 3, 2, 2, 3, 2, 2, 2, 2, 2, 2]) (by kernel_rfl) (by kernel_rfl) h
  obtain ⟨x0, h0, k0⟩ := hc 0 _ rfl
  obtain ⟨x1, h1, k1⟩ := hc 1 _ rfl
  obtain ⟨x2, h2, k2⟩ := hc 2 _ rfl
  obtain ⟨x3, h3, k3⟩ := hc 3 _ rfl
  obtain ⟨x4, h4, k4⟩ := hc 4 _ rfl
  obtain ⟨x5, h5, k5⟩ := hc 5 _ rfl
  obtain ⟨x6, h6, k6⟩ := hc 6 _ rfl
  obtain ⟨x7, h7, k7⟩ := hc 7 _ rfl
  obtain ⟨x8, h8, k8⟩ := hc 8 _ rfl
  obtain ⟨x9, h9, k9⟩ := hc 9 _ rfl
  obtain ⟨x10, h10, k10⟩ := hc 10 _ rfl
  obtain ⟨x11, h11, k11⟩ := hc 11 _ rfl
  obtain ⟨x12, h12, k12⟩ := hc 12 _ rfl
  obtain ⟨x13, h13, k13⟩ := hc 13 _ rfl
  obtain ⟨x14, h14, k14⟩ := hc 14 _ rfl
  obtain ⟨k, rfl, b0⟩ := cell_int Try.underlying3 k0
  obtain ⟨s, rfl, b1⟩ := cell_int Try.underlying3 k1
  obtain ⟨bo, rfl, b2⟩ := cell_int Try.underlying3 k2
  obtain ⟨sq, rfl, b3⟩ := cell_int Try.underlying3 k3
  obtain ⟨st, rfl, b4⟩ := cell_int Try.underlying2 k4
  obtain ⟨ds, rfl, b5⟩ := cell_int Try.underlying3 k5
  obtain ⟨ta, rfl, b6⟩ := cell_int Try.underlying2 k6
  obtain ⟨tb, rfl, b7⟩ := cell_int Try.underlying2 k7
  obtain ⟨wh, rfl, b8⟩ := cell_int Try.underlying3 k8
  obtain ⟨wn, rfl, b9⟩ := cell_int Try.underlying2 k9
  obtain ⟨x, rfl, b10⟩ := cell_int Try.underlying2 k10
  obtain ⟨y, rfl, b11⟩ := cell_int Try.underlying2 k11
  obtain ⟨a, rfl, b12⟩ := cell_int Try.underlying2 k12
  obtain ⟨b, rfl, b13⟩ := cell_int Try.underlying2 k13
  obtain ⟨d, rfl, b14⟩ := cell_int Try.underlying2 k14
  refine ⟨k, s, bo, sq, st, ds, ta, tb, wh, wn, x, y, a, b, d, ?_, has_i64 b0, has_i64 b1, has_i64 b2, has_i64 b3, has_i64 b4, has_i64 b5, has_i64 b6, has_i64 b7, has_i64 b8, has_i64 b9, has_i64 b10, has_i64 b11, has_i64 b12, has_i64 b13, has_i64 b14⟩
  congr 1
  apply Array.ext_getElem?
  intro i
  rcases i with _ | _ | _ | _ | _ | _ | _ | _ | _ | _ | _ | _ | _ | _ | _ | i
  · exact h0
  · exact h1
  · exact h2
  · exact h3
  · exact h4
  · exact h5
  · exact h6
  · exact h7
  · exact h8
  · exact h9
  · exact h10
  · exact h11
  · exact h12
  · exact h13
  · exact h14
  · rw [Array.getElem?_eq_none (by first | omega | (simp at hs; omega)), Array.getElem?_eq_none (by simp)]
end Go.Proofs.Ytdipecepgfaokaa
namespace Go.Proofs.Ytdipecepgfaokaa
set_option linter.unusedSimpArgs false
set_option linter.unusedVariables false
open Go.ChangeShapes Go.WideShapes Go.ChangeAt Go.RowKit Go.Deep
set_option maxRecDepth 100000

theorem addr_add (b o k : Nat) : (⟨b, o, none⟩ : Addr).add k = ⟨b, o + k, none⟩ := by
  unfold Addr.add
  by_cases h : k = 0
  · subst h; rfl
  · rw [if_neg h]
theorem open_bool {W : World} {base : Nat} {v : Value} (h : Value.okWide Try.prog W .any base 4 v) : ∃ b, v = .bool b ∧ True := by
  obtain ⟨b, rfl⟩ := okWide_bool Try.underlying4 h
  exact ⟨b, rfl, trivial⟩
theorem open_intsA {H : Type} {enc : TypeId × Value → H} {W : World} {base : Nat} {spare : Nat → Bool} {held : Bool} {v : Value} {d : DataW H} {p : List MemPlace} (hv : Value.okWide Try.prog W .any base 36 v)
    (h : DataW.Trod enc Try.prog W 0 spare held 36 v d p) : ∃ A len cap T, v = .slice A len cap ∧ IntsA W A len T ∧ len ≤ 9223372036854775807 := by
  obtain ⟨a0, len, cap, rfl⟩ := okWide_slice Try.underlying36 hv
  obtain ⟨fuel, hf⟩ := h
  rcases open_slice Try.underlying36 hf with ⟨h0, -⟩ | ⟨a, len', cap', m, n, D, Pl, hcs, hb, hl, hm, hmm, hx, hi⟩
  · simp [Value.cells] at h0
    obtain ⟨rfl, rfl, rfl⟩ := h0
    exact ⟨_, _, _, fun _ => 0, rfl, fun i hi => absurd hi (Nat.not_lt_zero i), Nat.zero_le _⟩
  · simp [Value.cells] at hcs
    obtain ⟨rfl, rfl, rfl⟩ := hcs
    have hC : Try.prog.cellsOf 3 = 1 := by kernel_rfl
    have hlm : len ≤ m := by rw [hmm]; split <;> omega
    have key : ∀ i, i < len → ∃ x, W.cell? (a.add i) = some (.int .i64 x) := by
      intro i hil
      obtain ⟨cs', hc, ht'⟩ := hi i (by omega)
      rw [hC] at hc
      obtain ⟨_, hcl, hat⟩ := World.cells?_some hc
      obtain ⟨x, hx0, -, -⟩ := DataW.trod_int Try.underlying3 ht'
      have c0 := hat 0 (by omega)
      rw [hx0, Nat.mul_one] at c0
      exact ⟨x, c0⟩
    have hT : ∀ i, ∃ q : Int, i < len → W.cell? (a.add i) = some (.int .i64 q) := by
      intro i
      by_cases h : i < len
      · obtain ⟨x, h1⟩ := key i h
        exact ⟨x, fun _ => h1⟩
      · exact ⟨0, fun h' => absurd h' h⟩
    obtain ⟨T, hT'⟩ : ∃ T : Nat → Int, ∀ i, i < len → W.cell? (a.add i) = some (.int .i64 (T i)) :=
      ⟨fun i => Classical.choose (hT i), fun i hi => Classical.choose_spec (hT i) hi⟩
    refine ⟨_, _, _, T, rfl, ?_, Nat.le_trans hl hm⟩
    intro i hi
    have h1 := hT' i hi
    obtain ⟨b, o, sp⟩ := a
    have hsp : sp = none := by
      obtain ⟨x, k1⟩ := key 0 (by omega)
      cases sp with
      | none => rfl
      | some k =>
        unfold World.cell? at k1
        simp [Addr.add] at k1
        split at k1 <;> simp at k1
    subst hsp
    rw [addr_add] at h1
    exact ⟨b, o, rfl, block_lt_of_cell h1, h1⟩
theorem open_bytesA {H : Type} {enc : TypeId × Value → H} {W : World} {base : Nat} {spare : Nat → Bool} {held : Bool} {v : Value} {d : DataW H} {p : List MemPlace} (hv : Value.okWide Try.prog W .any base 30 v)
    (h : DataW.Trod enc Try.prog W 0 spare held 30 v d p) : ∃ ys, BytA W v ys := by
  obtain ⟨a0, len, cap, rfl⟩ := okWide_slice Try.underlying30 hv
  obtain ⟨fuel, hf⟩ := h
  rcases open_slice Try.underlying30 hf with ⟨h0, -⟩ | ⟨a, len', cap', m, n, D, Pl, hcs, hb, hl, hm, hmm, hx, hi⟩
  · simp [Value.cells] at h0
    obtain ⟨rfl, rfl, rfl⟩ := h0
    exact ⟨[], ⟨(fun c hc => by cases hc), none, 0, rfl, Nat.le_refl _, fun j hj => absurd hj (Nat.not_lt_zero _)⟩, .inl rfl⟩
  · simp [Value.cells] at hcs
    obtain ⟨rfl, rfl, rfl⟩ := hcs
    have hC : Try.prog.cellsOf 5 = 1 := by kernel_rfl
    have hlm : len ≤ m := by rw [hmm]; split <;> omega
    have key : ∀ i, i < len → ∃ x : Nat, x < 256 ∧ W.cell? (a.add i) = some (.int .u8 (x : Int)) := by
      intro i hil
      obtain ⟨cs', hc, ht'⟩ := hi i (by omega)
      rw [hC] at hc
      obtain ⟨_, hcl, hat⟩ := World.cells?_some hc
      obtain ⟨x, hx0, -, hw⟩ := DataW.trod_int Try.underlying5 ht'
      have c0 := hat 0 (by omega)
      rw [hx0, Nat.mul_one] at c0
      have hxr : (0 : Int) ≤ x ∧ x ≤ 255 := by
        simp [Lit.wf] at hw
        exact hw
      exact ⟨x.toNat, by omega, by rw [show ((x.toNat : Nat) : Int) = x by omega]; exact c0⟩
    have hT : ∀ i, ∃ q : Nat, q < 256 ∧ (i < len → W.cell? (a.add i) = some (.int .u8 (q : Int))) := by
      intro i
      by_cases h : i < len
      · obtain ⟨x, h0, h1⟩ := key i h
        exact ⟨x, h0, fun _ => h1⟩
      · exact ⟨0, by omega, fun h' => absurd h' h⟩
    obtain ⟨T, hT'⟩ : ∃ T : Nat → Nat, ∀ i, T i < 256 ∧ (i < len → W.cell? (a.add i) = some (.int .u8 ((T i : Nat) : Int))) :=
      ⟨fun i => Classical.choose (hT i), fun i => Classical.choose_spec (hT i)⟩
    have hln : ((List.range len).map T).length = len := by simp
    refine ⟨(List.range len).map T, ⟨?_, some a, cap, by rw [hln], by rw [hln]; exact hl, ?_⟩, .inr ⟨_, _, _, rfl⟩⟩
    · intro c hc
      obtain ⟨i, -, rfl⟩ := List.mem_map.1 hc
      exact (hT' i).1
    · intro j hj
      rw [hln] at hj
      have h1 := (hT' j).2 hj
      obtain ⟨b, o, sp⟩ := a
      have hsp : sp = none := by
        obtain ⟨x, _, k1⟩ := key 0 (by omega)
        cases sp with
        | none => rfl
        | some k =>
          unfold World.cell? at k1
          simp [Addr.add] at k1
          split at k1 <;> simp at k1
      subst hsp
      rw [addr_add] at h1
      refine ⟨b, o, rfl, block_lt_of_cell h1, ?_⟩
      rw [h1, List.getD_eq_getElem?_getD, List.getElem?_map, List.getElem?_range hj]; rfl
end Go.Proofs.Ytdipecepgfaokaa
