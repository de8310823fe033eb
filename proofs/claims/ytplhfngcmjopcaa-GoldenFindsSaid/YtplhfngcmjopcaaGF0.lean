/- The plain law of the search: of values that fall and then rise the least one is found, and no question is asked twice. No program in sight. -/
import Derived.Test.YtplhfngcmjopcaaG0
namespace Go.Proofs.Ytplhfngcmjopcaa

/-- What is kept while it is asked: the best of all that was asked. -/
def GInv (V : Int → Int × Bool) (s : GS) : Prop := (s.ok = false ∧ s.asked = []) ∨ (s.ok = true ∧ (V s.w).1 = s.n ∧ s.w ∈ s.asked ∧ ∀ x ∈ s.asked, s.n ≤ (V x).1)
theorem gask_inv (V : Int → Int × Bool) (x : Int) (s : GS) (hV : (V x).2 = true) (h : GInv V s) : GInv V (gask V x s) := by
  unfold gask
  cases hb : better V x s
  · simp only [cond_false]
    unfold better at hb
    rw [hV] at hb
    rcases h with ⟨h1, h2⟩ | ⟨h1, h2, h3, h4⟩
    · rw [h1] at hb; simp at hb
    · refine .inr ⟨h1, h2, List.mem_append_left _ h3, fun y hy => ?_⟩
      rcases List.mem_append.1 hy with hy | hy
      · exact h4 y hy
      · have : y = x := by simpa using hy
        subst this
        rw [h1] at hb
        simp at hb
        exact hb.1
  · simp only [cond_true]
    unfold better at hb
    rw [hV] at hb
    refine .inr ⟨rfl, rfl, List.mem_append_right _ (by simp), fun y hy => ?_⟩
    rcases List.mem_append.1 hy with hy | hy
    · rcases h with ⟨h1, h2⟩ | ⟨h1, h2, h3, h4⟩
      · rw [h2] at hy; cases hy
      · have h5 := h4 y hy
        rw [h1] at hb
        simp at hb
        show (V x).1 ≤ (V y).1
        omega
    · have : y = x := by simpa using hy
      subst this
      exact Int.le_refl _
/-- Where the least one lies, what was asked. -/
def GWhere (V : Int → Int × Bool) (at' : Int) (j : Nat) (r : Int × GS) : Prop :=
  r.1 < at' ∧ at' < r.1 + gD j ∧ GInv V r.2 ∧ r.1 + gX j ∈ r.2.asked ∧ r.1 + gY j ∈ r.2.asked ∧ r.2.asked.Nodup ∧ ∀ q ∈ r.2.asked, q ≤ r.1 ∨ r.1 + gD j ≤ q ∨ q = r.1 + gX j ∨ q = r.1 + gY j
theorem gwhere (V : Int → Int × Bool) (at' : Int) (h1 : 1 ≤ at') (h2 : at' ≤ 33) (hok : ∀ x, (V x).2 = true) (hfall : ∀ x y, x < y → y ≤ at' → (V y).1 < (V x).1) (hrise : ∀ x y, at' ≤ x → x < y → (V x).1 < (V y).1) (j : Nat) : j ≤ 6 → GWhere V at' j (giter V j) := by
  induction j with
  | zero =>
    intro _
    refine ⟨by show (0 : Int) < at'; omega, by show at' < 0 + 34; omega, gask_inv _ _ _ (hok _) (gask_inv _ _ _ (hok _) (.inl ⟨rfl, rfl⟩)), ?_, ?_, ?_, ?_⟩
    · show (0 : Int) + 13 ∈ (gask V 21 (gask V 13 ⟨[], 0, 0, false⟩)).asked
      rw [gask_len, gask_len]; simp
    · show (0 : Int) + 21 ∈ (gask V 21 (gask V 13 ⟨[], 0, 0, false⟩)).asked
      rw [gask_len, gask_len]; simp
    · show (gask V 21 (gask V 13 ⟨[], 0, 0, false⟩)).asked.Nodup
      rw [gask_len, gask_len]; decide
    · show ∀ q ∈ (gask V 21 (gask V 13 ⟨[], 0, 0, false⟩)).asked, _
      rw [gask_len, gask_len]
      intro q hq
      simp at hq
      show q ≤ 0 ∨ 0 + 34 ≤ q ∨ q = 0 + 13 ∨ q = 0 + 21
      omega
  | succ j ih =>
    intro hj
    have g := gXY j (by omega)
    have g2 : j < 5 → gX (j + 1) < gY (j + 1) ∧ gY (j + 1) < gD (j + 1) ∧ 1 ≤ gX (j + 1) := fun h => by have := gXY (j + 1) (by omega); omega
    have g3 : j = 5 → gX (j + 1) = gY (j + 1) := fun h => by subst h; rfl
    obtain ⟨i1, i2, i3, i4, i5, i6, i7⟩ := ih (by omega)
    unfold giter gstep
    generalize giter V j = r at *
    obtain ⟨a, s⟩ := r
    simp only at *
    cases hm : gm (V (a + gX j)) (V (a + gY j))
    · -- right: the value at x is greater: the least one lies beyond x
      have hx : a + gX j < at' := by
        rcases Int.lt_or_le (a + gX j) at' with h | h
        · exact h
        · have := hrise (a + gX j) (a + gY j) h (by omega)
          unfold gm at hm; rw [hok, hok] at hm; simp at hm; omega
      simp only [cond_false]
      unfold gright GWhere
      simp only
      by_cases h5 : j = 5
      · have g4 := g3 h5
        rw [if_pos h5]
        refine ⟨hx, by omega, i3, ?_, ?_, i6, fun q hq => ?_⟩
        · have : a + gX j + gX (j + 1) = a + gY j := by omega
          rw [this]; exact i5
        · have : a + gX j + gY (j + 1) = a + gY j := by omega
          rw [this]; exact i5
        · have := i7 q hq; omega
      · have g4 := g2 (by omega)
        rw [if_neg h5]
        refine ⟨hx, by omega, gask_inv _ _ _ (hok _) i3, ?_, ?_, ?_, fun q hq => ?_⟩
        · rw [gask_len]
          have : a + gX j + gX (j + 1) = a + gY j := by omega
          rw [this]; exact List.mem_append_left _ i5
        · rw [gask_len]; simp
        · rw [gask_len, List.nodup_append]
          refine ⟨i6, by simp, fun q hq z hz => ?_⟩
          have := i7 q hq
          simp at hz
          omega
        · rw [gask_len] at hq
          rcases List.mem_append.1 hq with hq | hq
          · have := i7 q hq; omega
          · simp at hq; omega
    · have hy : at' < a + gY j := by
        rcases Int.lt_or_le at' (a + gY j) with h | h
        · exact h
        · have := hfall (a + gX j) (a + gY j) (by omega) h
          unfold gm at hm; rw [hok, hok] at hm; simp at hm; omega
      simp only [cond_true]
      unfold gleft GWhere
      simp only
      by_cases h5 : j = 5
      · have g4 := g3 h5
        rw [if_pos h5]
        refine ⟨i1, by omega, i3, ?_, ?_, i6, fun q hq => ?_⟩
        · have : a + gX (j + 1) = a + gX j := by omega
          rw [this]; exact i4
        · have : a + gY (j + 1) = a + gX j := by omega
          rw [this]; exact i4
        · have := i7 q hq; omega
      · have g4 := g2 (by omega)
        rw [if_neg h5]
        refine ⟨i1, by omega, gask_inv _ _ _ (hok _) i3, ?_, ?_, ?_, fun q hq => ?_⟩
        · rw [gask_len]; simp
        · rw [gask_len]
          have : a + gY (j + 1) = a + gX j := by omega
          rw [this]; exact List.mem_append_left _ i4
        · rw [gask_len, List.nodup_append]
          refine ⟨i6, by simp, fun q hq z hz => ?_⟩
          have := i7 q hq
          simp at hz
          omega
        · rw [gask_len] at hq
          rcases List.mem_append.1 hq with hq | hq
          · have := i7 q hq; omega
          · simp at hq; omega
theorem gfinds (V : Int → Int × Bool) (at' : Int) (h1 : 1 ≤ at') (h2 : at' ≤ 33) (hok : ∀ x, (V x).2 = true) (h0 : (V at').1 = 0) (hpos : ∀ x, x ≠ at' → 0 < (V x).1) (hfall : ∀ x y, x < y → y ≤ at' → (V y).1 < (V x).1) (hrise : ∀ x y, at' ≤ x → x < y → (V x).1 < (V y).1) :
    (gfin V).w = at' ∧ (gfin V).n = 0 ∧ (gfin V).ok = true ∧ (gfin V).asked.Nodup := by
  obtain ⟨i1, i2, i3, i4, i5, i6, i7⟩ := gwhere V at' h1 h2 hok hfall hrise 6 (by decide)
  have e : (giter V 6).1 + gX 6 = at' := by
    have : gD 6 = 2 := rfl
    have : gX 6 = 1 := rfl
    omega
  rw [e] at i4
  show (giter V 6).2.w = _ ∧ (giter V 6).2.n = 0 ∧ (giter V 6).2.ok = true ∧ (giter V 6).2.asked.Nodup
  rcases i3 with ⟨-, h⟩ | ⟨k1, k2, k3, k4⟩
  · rw [h] at i4; cases i4
  · have := k4 _ i4
    rw [h0] at this
    by_cases hw : (giter V 6).2.w = at'
    · rw [hw, h0] at k2
      exact ⟨hw, k2.symm, k1, i6⟩
    · have := hpos _ hw
      omega
end Go.Proofs.Ytplhfngcmjopcaa
