/- The frame of rows on frames, bytes. -/
import Derived.Test.YtdipecepgfaokaaFe
import Derived.Test.YtdipecepgfaokaaN4
namespace Go.Proofs.Ytdipecepgfaokaa
set_option linter.unusedSimpArgs false
set_option linter.unusedVariables false
open Go.ChangeShapes Go.WideShapes Go.ChangeAt Go.RowKit
set_option maxRecDepth 100000
theorem okWide_arr {P : Program} {W : World} {r : Reach} {base : Nat} {t u : TypeId} {v : Value} {n : Nat} {ts : List TypeId} (hu : P.underlying t = some (.array n u)) (hts : P.cellTypes P.depth t = some ts) (h1 : ∀ z ∈ ts, z = u) (hc : P.cellsOf t = n)
    (h : Value.okWide P W r base t v) : ∃ cs : Array Value, v = .agg cs ∧ cs.size = n ∧ ∀ (i : Nat), i < n → ∃ x, cs[i]? = some x ∧ Cell.okWide P W r base u x := by
  unfold Value.okWide at h
  rw [hu] at h
  obtain ⟨cs, rfl, hs, ts', hts', _, hcell⟩ := h
  rw [hts] at hts'
  obtain rfl := Option.some.inj hts'
  refine ⟨cs, rfl, by omega, fun i hi => ?_⟩
  have hlt' : i < cs.size := by omega
  refine ⟨cs[i], Array.getElem?_eq_getElem hlt', ?_⟩
  obtain ⟨u', hu', hc'⟩ := hcell i cs[i] (Array.getElem?_eq_getElem hlt')
  rw [h1 u' (List.mem_of_getElem? hu')] at hc'
  exact hc'
def U8 (n : Int) : Prop := 0 ≤ n ∧ n < 256
theorem has_u8 {n : Int} (h : IntKind.u8.has n) : U8 n := by
  have h : (0 : Int) ≤ n ∧ n ≤ 255 := h
  unfold U8; omega
theorem open_u8 {W : World} {base : Nat} {v : Value} (h : Value.okWide Try.prog W .any base 5 v) : ∃ n, v = .int .u8 n ∧ U8 n := by
  obtain ⟨n, rfl, hn⟩ := okWide_int_has Try.underlying5 h
  exact ⟨n, rfl, has_u8 hn⟩
theorem open_by4 {W : World} {base : Nat} {v : Value} (h : Value.okWide Try.prog W .any base 45 v) : ∃ a b c d, v = .agg #[.int .u8 a, .int .u8 b, .int .u8 c, .int .u8 d] ∧ U8 a ∧ U8 b ∧ U8 c ∧ U8 d := by
  obtain ⟨cs, rfl, hs, hc⟩ := okWide_arr Try.underlying45 (ts := [5, 5, 5, 5]) (by kernel_rfl) (by intro z hz; simp at hz; exact hz) (by kernel_rfl) h
  obtain ⟨x0, h0, k0⟩ := hc 0 (by decide)
  obtain ⟨x1, h1, k1⟩ := hc 1 (by decide)
  obtain ⟨x2, h2, k2⟩ := hc 2 (by decide)
  obtain ⟨x3, h3, k3⟩ := hc 3 (by decide)
  obtain ⟨a, rfl, b0⟩ := cell_int Try.underlying5 k0
  obtain ⟨b, rfl, b1⟩ := cell_int Try.underlying5 k1
  obtain ⟨c, rfl, b2⟩ := cell_int Try.underlying5 k2
  obtain ⟨d, rfl, b3⟩ := cell_int Try.underlying5 k3
  refine ⟨a, b, c, d, ?_, has_u8 b0, has_u8 b1, has_u8 b2, has_u8 b3⟩
  congr 1
  apply Array.ext_getElem?
  intro i
  rcases i with _ | _ | _ | _ | i
  · exact h0
  · exact h1
  · exact h2
  · exact h3
  · rw [Array.getElem?_eq_none (by first | omega | (simp at hs; omega)), Array.getElem?_eq_none (by simp)]
theorem open_fr {W : World} {base : Nat} {v : Value} (h : Value.okWide Try.prog W .any base 29 v) : ∃ k s bo sq st ds ta tb wh wn x y a b d, v = frC k s bo sq st ds ta tb wh wn x y a b d ∧ I64 k ∧ I64 s ∧ I64 bo ∧ I64 sq ∧ I64 st ∧ I64 ds ∧ I64 ta ∧ I64 tb ∧ I64 wh ∧ I64 wn ∧ I64 x ∧ I64 y ∧ I64 a ∧ I64 b ∧ I64 d := by
  obtain ⟨cs, rfl, hs, hc⟩ := okWide_cells Try.underlying29 (ts := [3, 3, 3, 3, 2, 3, 2, 2, 3, 2, 2, 2, 2, 2, 2]) (by kernel_rfl) (by kernel_rfl) h
  obtain ⟨x0, h0, k0⟩ := hc 0 _ rfl
  obtain ⟨x1, h1, k1⟩ := hc 1 _ rfl
  obtain ⟨x2, h2, k2⟩ := hc 2 _ rfl
  obtain ⟨x3, h3, k3⟩ := hc 3 _ rfl
  obtain ⟨x4, h4, k4⟩ := hc 4 _ rfl
  obtain ⟨x5, h5, k5⟩ := hc 5 _ rfl
  obtain ⟨x6, h6, k6⟩ := hc 6 _ rfl
  obtain ⟨x7, h7, k7⟩ := hc 7 _ rfl
  obtain ⟨x8, h8, k8⟩ := hc 8 _ rfl
  obtain ⟨x9, h9, k9⟩ := hc 9 _ rfl
  obtain ⟨x10, h10, k10⟩ := hc 10 _ rfl
  obtain ⟨x11, h11, k11⟩ := hc 11 _ rfl
  obtain ⟨x12, h12, k12⟩ := hc 12 _ rfl
  obtain ⟨x13, h13, k13⟩ := hc 13 _ rfl
  obtain ⟨x14, h14, k14⟩ := hc 14 _ rfl
  obtain ⟨k, rfl, b0⟩ := cell_int Try.underlying3 k0
  obtain ⟨s, rfl, b1⟩ := cell_int Try.underlying3 k1
  obtain ⟨bo, rfl, b2⟩ := cell_int Try.underlying3 k2
  obtain ⟨sq, rfl, b3⟩ := cell_int Try.underlying3 k3
  obtain ⟨st, rfl, b4⟩ := cell_int Try.underlying2 k4
  obtain ⟨ds, rfl, b5⟩ := cell_int Try.underlying3 k5
  obtain ⟨ta, rfl, b6⟩ := cell_int Try.underlying2 k6
  obtain ⟨tb, rfl, b7⟩ := cell_int Try.underlying2 k7
  obtain ⟨wh, rfl, b8⟩ := cell_int Try.underlying3 k8
  obtain ⟨wn, rfl, b9⟩ := cell_int Try.underlying2 k9
  obtain ⟨x, rfl, b10⟩ := cell_int Try.underlying2 k10
  obtain ⟨y, rfl, b11⟩ := cell_int Try.underlying2 k11
  obtain ⟨a, rfl, b12⟩ := cell_int Try.underlying2 k12
  obtain ⟨b, rfl, b13⟩ := cell_int Try.underlying2 k13
  obtain ⟨d, rfl, b14⟩ := cell_int Try.underlying2 k14
  refine ⟨k, s, bo, sq, st, ds, ta, tb, wh, wn, x, y, a, b, d, ?_, has_i64 b0, has_i64 b1, has_i64 b2, has_i64 b3, has_i64 b4, has_i64 b5, has_i64 b6, has_i64 b7, has_i64 b8, has_i64 b9, has_i64 b10, has_i64 b11, has_i64 b12, has_i64 b13, has_i64 b14⟩
  congr 1
  apply Array.ext_getElem?
  intro i
  rcases i with _ | _ | _ | _ | _ | _ | _ | _ | _ | _ | _ | _ | _ | _ | _ | i
  · exact h0
  · exact h1
  · exact h2
  · exact h3
  · exact h4
  · exact h5
  · exact h6
  · exact h7
  · exact h8
  · exact h9
  · exact h10
  · exact h11
  · exact h12
  · exact h13
  · exact h14
  · rw [Array.getElem?_eq_none (by first | omega | (simp at hs; omega)), Array.getElem?_eq_none (by simp)]
end Go.Proofs.Ytdipecepgfaokaa
