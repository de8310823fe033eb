/- The document's numbers in blocks of one's own. -/
import Derived.Test.YtdipecepgfaokaaRC
namespace Go.Proofs.Ytdipecepgfaokaa
set_option linter.unusedSimpArgs false
set_option linter.unusedVariables false
open Go.RowKit

/-- The end of a walk whose results are two rows of cells. -/
theorem bodyPost_rr {P : Program} {fn : Func} {R : Ending → World → Prop} {a : Act} {w : World} {p q : Tmp} {ty tz : TypeId} {g h : Nat} (n m : Nat) (cs ds : Array Value) {d f : TypeDesc}
    (hf : fn.results = #[.cell p ty, .cell q tz]) (hde : a.defers = []) (hp : a.tmps.getD p undef = .pointer (some ⟨g, 0, none⟩)) (hq : a.tmps.getD q undef = .pointer (some ⟨h, 0, none⟩))
    (hu : P.underlying ty = some d) (hd : d.isRow = true) (hi : (P.info? ty).map (·.size) = some n) (hg : w.row? g 0 n = some cs)
    (hu' : P.underlying tz = some f) (hd' : f.isRow = true) (hi' : (P.info? tz).map (·.size) = some m) (hg' : w.row? h 0 m = some ds) (hR : R (.returned (.tuple #[.agg cs, .agg ds])) w) :
    bodyPost P fn R .ret a w := by
  refine bodyPost_ret (v := .tuple #[.agg cs, .agg ds]) ?_ hde hR
  have hp' : a.tmps[p]?.getD undef = .pointer (some ⟨g, 0, none⟩) := by simpa using hp
  have hq' : a.tmps[q]?.getD undef = .pointer (some ⟨h, 0, none⟩) := by simpa using hq
  simp [results, hf, hp', hq', asAddr, Result.andThen, run_loadVar_row? w g 0 n ty cs d hu hd hi hg, run_loadVar_row? w h 0 m tz ds f hu' hd' hi' hg']
theorem mul_x (a b : Value) (x y z : WI) (w : World) (hz : Hid (x.mul y = z)) (ha : BigIs w a x) (hb : BigIs w b y) :
    Calls Try.prog 48 #[a, b] w fun e w' => (∃ v, e = .returned v ∧ BigIs w' v z) ∧ Below w.heap.size w w' := by
  rw [← hz.out]; exact mul_r a b x y w ha hb
/-- A row that holds no words turned as a whole. -/
theorem Rd.putRow {w : World} {s : Value} {xs : List Nat} (h : Rd w s xs) {g : Nat} {cs : Array Value} {t : TypeId} (hB : Blk w g cs t) (hn : ∀ i : Nat, ∀ n, cs[i]? ≠ some (.int .u32 n)) (o : Nat) (ds : Array Value) : Rd (w.putRow g o ds) s xs := by
  obtain ⟨hd, h | ⟨b, o', cap, hs, h1, h2, h3, h4⟩⟩ := h
  · exact ⟨hd, .inl h⟩
  · refine ⟨hd, .inr ⟨b, o', cap, hs, h1, h2, by simpa using h3, fun i hi => ?_⟩⟩
    rw [cell?_putRow_other]
    · exact h4 i hi
    · rintro rfl
      have := h4 i hi
      rw [hB.at] at this
      exact hn _ _ this
theorem cellsI_nou32 (a b : Bool) (N : Nat) (i : Nat) (n : Int) : (cellsI a b N)[i]? ≠ some (.int .u32 n) := by
  intro h
  have hi : i < 18 := by
    rcases Nat.lt_or_ge i 18 with h1 | h1
    · exact h1
    · rw [Array.getElem?_eq_none (by simpa using h1)] at h; cases h
  rcases i with _ | _ | i
  · rw [cellsI_0] at h; cases h
  · rw [cellsI_1] at h; cases h
  · rw [show i + 1 + 1 = 2 + i by omega, cellsI_word _ _ _ _ (by omega)] at h; cases h
theorem WI.cells_nou32 (x : WI) (i : Nat) (n : Int) : x.cells[i]? ≠ some (.int .u32 n) := by
  intro h
  have hi : i < 18 := by
    rcases Nat.lt_or_ge i 18 with h1 | h1
    · exact h1
    · rw [Array.getElem?_eq_none (by simpa using h1)] at h; cases h
  rcases i with _ | _ | i
  · rw [WI.cells_0] at h; cases h
  · rw [WI.cells_1] at h; cases h
  · rw [x.cells_eq, show i + 1 + 1 = 2 + i by omega, cellsI_word _ _ _ _ (by omega)] at h; cases h
/-- A Big's cells. -/
def bigC (x : WI) (A : Option Addr) (c : Nat) : Array Value := #[.bool x.ng, .bool x.ov, .slice A (dg x.sz).length c]
/-- A Big lies in a block. -/
def BigAt (w : World) (g : Nat) (x : WI) : Prop := ∃ A c, Blk w g (bigC x A c) 73 ∧ Rd w (.slice A (dg x.sz).length c) (dg x.sz)
theorem BigAt.keep {w w' : World} {g : Nat} {x : WI} (h : BigAt w g x) (hb : Below w.heap.size w w') : BigAt w' g x := by
  obtain ⟨A, c, h1, h2⟩ := h; exact ⟨A, c, h1.keep hb, h2.below hb⟩
theorem BigAt.put {w : World} {g : Nat} {x : WI} (h : BigAt w g x) {y : WI} {s : Value} (hs : Rd w s (dg y.sz)) :
    BigAt (((w.setCell ⟨g, 0, none⟩ (.bool y.ng)).setCell ⟨g, 1, none⟩ (.bool y.ov)).setCell ⟨g, 2, none⟩ s) g y := by
  obtain ⟨A, c, h1, -⟩ := h
  obtain ⟨A', c', rfl⟩ := hs.form
  exact ⟨A', c', ((h1.setCell_same 0 _).setCell_same 1 _).setCell_same 2 _, hs.set3 (h1.cell (i := 0) rfl) (h1.cell (i := 1) rfl) (h1.cell (i := 2) rfl) _ _ _⟩
theorem BigAt.putRow {w : World} {g b : Nat} {x : WI} (h : BigAt w g x) {cs : Array Value} {t : TypeId} (hB : Blk w b cs t) (hn : ∀ i : Nat, ∀ n, cs[i]? ≠ some (.int .u32 n)) (hne : g ≠ b) (ds : Array Value) : BigAt (w.putRow b 0 ds) g x := by
  obtain ⟨A, c, h1, h2⟩ := h; exact ⟨A, c, h1.putRow_other hne _ _, h2.putRow hB hn _ _⟩
end Go.Proofs.Ytdipecepgfaokaa
