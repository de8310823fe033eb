/- The plain search by Fibonacci's numbers: what is asked, and what is found. No program in sight. -/
namespace Go.Proofs.Ytplhfngcmjopcaa

/-- What was asked, and the best of it. -/
structure GS where
  asked : List Int
  w : Int
  n : Int
  ok : Bool
/-- Is a value better than the best? -/
def better (V : Int → Int × Bool) (x : Int) (s : GS) : Bool := (V x).2 && (!s.ok || decide ((V x).1 < s.n) || ((V x).1 == s.n && decide (x < s.w)))
def gask (V : Int → Int × Bool) (x : Int) (s : GS) : GS :=
  bif better V x s then ⟨s.asked ++ [x], x, (V x).1, true⟩ else ⟨s.asked ++ [x], s.w, s.n, s.ok⟩
/-- Is one value at most the other? -/
def gm (v w : Int × Bool) : Bool := !w.2 || (v.2 && decide (v.1 ≤ w.1))
def gD : Nat → Int | 0 => 34 | 1 => 21 | 2 => 13 | 3 => 8 | 4 => 5 | 5 => 3 | _ => 2
def gX : Nat → Int | 0 => 13 | 1 => 8 | 2 => 5 | 3 => 3 | 4 => 2 | _ => 1
def gY : Nat → Int | 0 => 21 | 1 => 13 | 2 => 8 | 3 => 5 | 4 => 3 | 5 => 2 | _ => 1
def gleft (V : Int → Int × Bool) (j : Nat) (a : Int) (s : GS) : Int × GS := (a, if j = 5 then s else gask V (a + gX (j + 1)) s)
def gright (V : Int → Int × Bool) (j : Nat) (a : Int) (s : GS) : Int × GS := (a + gX j, if j = 5 then s else gask V (a + gX j + gY (j + 1)) s)
def gstep (V : Int → Int × Bool) (j : Nat) (r : Int × GS) : Int × GS :=
  bif gm (V (r.1 + gX j)) (V (r.1 + gY j)) then gleft V j r.1 r.2 else gright V j r.1 r.2
def giter (V : Int → Int × Bool) : Nat → Int × GS
  | 0 => (0, gask V 21 (gask V 13 ⟨[], 0, 0, false⟩))
  | j + 1 => gstep V j (giter V j)
def gfin (V : Int → Int × Bool) : GS := (giter V 6).2

theorem gXY (j : Nat) (hj : j < 6) : gX (j + 1) + gY (j + 1) = gD (j + 1) ∧ gX j = gY (j + 1) ∧ gY j = gD (j + 1) ∧ gY j - gX j = gX (j + 1) ∧ gD j - gX j = gD (j + 1) ∧ 1 ≤ gX j ∧ gX j < gY j ∧ gY j < gD j ∧ 3 ≤ gD j := by
  match j, hj with
  | 0, _ | 1, _ | 2, _ | 3, _ | 4, _ | 5, _ => decide
theorem gask_len (V : Int → Int × Bool) (x : Int) (s : GS) : (gask V x s).asked = s.asked ++ [x] := by
  unfold gask; cases better V x s <;> rfl
theorem gask_none (V : Int → Int × Bool) (x : Int) (s : GS) (h : s.ok = false → s.w = 0 ∧ s.n = 0) : (gask V x s).ok = false → (gask V x s).w = 0 ∧ (gask V x s).n = 0 := by
  unfold gask; cases better V x s
  · exact h
  · intro h; cases h
theorem giter_ok (V : Int → Int × Bool) (j : Nat) : j ≤ 6 → (0 ≤ (giter V j).1 ∧ (giter V j).1 + gD j ≤ 34) ∧ ((giter V j).2.ok = false → (giter V j).2.w = 0 ∧ (giter V j).2.n = 0) ∧ (giter V j).2.asked.length = (if j = 6 then 7 else j + 2) := by
  induction j with
  | zero =>
    intro _
    refine ⟨⟨Int.le_refl 0, Int.le_refl 34⟩, gask_none _ _ _ (gask_none _ _ _ fun _ => ⟨rfl, rfl⟩), ?_⟩
    simp [giter, gask_len]
  | succ j ih =>
    intro hj
    obtain ⟨h1, h2, h3⟩ := ih (by omega)
    have g := gXY j (by omega)
    have hl : (giter V j).2.asked.length = j + 2 := by rw [h3, if_neg (by omega)]
    unfold giter gstep
    generalize giter V j = r at *
    cases gm (V (r.1 + gX j)) (V (r.1 + gY j))
    · simp only [cond_false, gright]
      refine ⟨by omega, ?_, ?_⟩
      · split
        · exact h2
        · exact gask_none _ _ _ h2
      · split
        · rw [hl]; subst_vars; rfl
        · rw [gask_len, List.length_append, hl, if_neg (by omega)]; rfl
    · simp only [cond_true, gleft]
      refine ⟨by omega, ?_, ?_⟩
      · split
        · exact h2
        · exact gask_none _ _ _ h2
      · split
        · rw [hl]; subst_vars; rfl
        · rw [gask_len, List.length_append, hl, if_neg (by omega)]; rfl
end Go.Proofs.Ytplhfngcmjopcaa
