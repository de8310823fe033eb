/- The text of a number: its digits, base 16. No program in sight. -/
import Derived.Test.YtcmgcndgdfblcaaNum
namespace Go.Proofs.Ytcmgcndgdfblcaa

/-- One digit. -/
def dg (d : Nat) : UInt8 := if d < 10 then UInt8.ofNat (48 + d) else UInt8.ofNat (87 + d)
/-- The digits of a number, none for 0. -/
def hx (n : Nat) : List UInt8 := if h : n = 0 then [] else hx (n / 16) ++ [dg (n % 16)]
termination_by n
decreasing_by omega
theorem hx_zero : hx 0 = [] := by rw [hx]; simp
theorem hx_pos {n : Nat} (h : n ≠ 0) : hx n = hx (n / 16) ++ [dg (n % 16)] := by rw [hx]; simp [h]
theorem hx_nil {n : Nat} : hx n = [] ↔ n = 0 := by
  constructor
  · intro h
    rcases Nat.eq_zero_or_pos n with h0 | h0
    · exact h0
    · rw [hx_pos (by omega)] at h; simp at h
  · rintro rfl; exact hx_zero
/-- The same with a 0 for nothing. -/
def hex (n : Nat) : List UInt8 := if n = 0 then [48] else hx n
theorem dg_inj : ∀ a : Nat, a < 16 → ∀ b : Nat, b < 16 → dg a = dg b → a = b := by decide
theorem dg_ne : ∀ a : Nat, a < 16 → dg a ≠ 45 ∧ dg a ≠ 111 := by decide
theorem dg_zero : ∀ a : Nat, a < 16 → (dg a = 48 ↔ a = 0) := by decide
theorem hx_inj : ∀ n m : Nat, hx n = hx m → n = m := by
  intro n
  induction n using Nat.strongRecOn with
  | ind n ih =>
    intro m h
    rcases Nat.eq_zero_or_pos n with h0 | h0
    · subst h0; rw [hx_zero] at h; exact (hx_nil.1 h.symm).symm
    · rcases Nat.eq_zero_or_pos m with h1 | h1
      · subst h1; rw [hx_zero] at h; exact hx_nil.1 h
      · rw [hx_pos (by omega), hx_pos (n := m) (by omega)] at h
        obtain ⟨h2, h3⟩ := List.append_inj' h rfl
        have h4 := ih (n / 16) (by omega) _ h2
        have h5 := dg_inj _ (Nat.mod_lt _ (by decide)) _ (Nat.mod_lt _ (by decide)) (List.head_eq_of_cons_eq h3)
        omega
theorem hx_head : ∀ n : Nat, n ≠ 0 → ∃ a t, hx n = dg a :: t ∧ a < 16 ∧ a ≠ 0 := by
  intro n
  induction n using Nat.strongRecOn with
  | ind n ih =>
    intro h
    rw [hx_pos h]
    by_cases h1 : n / 16 = 0
    · rw [h1, hx_zero]; exact ⟨n % 16, [], rfl, by omega, by omega⟩
    · obtain ⟨a, t, h2, h3, h4⟩ := ih (n / 16) (by omega) h1
      rw [h2]; exact ⟨a, t ++ [dg (n % 16)], by simp, h3, h4⟩
theorem hex_inj (n m : Nat) (h : hex n = hex m) : n = m := by
  unfold hex at h
  by_cases hn : n = 0 <;> by_cases hm : m = 0
  · omega
  · obtain ⟨a, t, h2, h3, h4⟩ := hx_head m hm
    rw [if_pos hn, if_neg hm, h2] at h
    have := (dg_zero a h3).1 (List.head_eq_of_cons_eq h).symm
    omega
  · obtain ⟨a, t, h2, h3, h4⟩ := hx_head n hn
    rw [if_neg hn, if_pos hm, h2] at h
    have := (dg_zero a h3).1 (List.head_eq_of_cons_eq h)
    omega
  · rw [if_neg hn, if_neg hm] at h; exact hx_inj _ _ h
theorem hex_head (n : Nat) : ∃ a t, hex n = dg a :: t ∧ a < 16 := by
  unfold hex
  by_cases h : n = 0
  · rw [if_pos h]; exact ⟨0, [], rfl, by decide⟩
  · rw [if_neg h]; obtain ⟨a, t, h1, h2, _⟩ := hx_head n h; exact ⟨a, t, h1, h2⟩
/-- The text of a number, or of what is over. -/
def txt : Option Int → List UInt8
  | none => [111, 118, 101, 114]
  | some z => if z < 0 then 45 :: hex z.natAbs else hex z.natAbs
theorem txt_inj (x y : Option Int) (h : txt x = txt y) : x = y := by
  have key : ∀ (z : Int), txt (some z) ≠ txt none := fun z h => by
    unfold txt at h
    obtain ⟨a, t, h1, h2⟩ := hex_head z.natAbs
    simp only at h
    split at h
    · cases h
    · rw [h1] at h; exact (dg_ne a h2).2 (List.head_eq_of_cons_eq h)
  cases x with
  | none => cases y with
    | none => rfl
    | some z => exact absurd h.symm (key z)
  | some x => cases y with
    | none => exact absurd h (key x)
    | some y =>
      unfold txt at h
      simp only at h
      obtain ⟨a, t, h1, h2⟩ := hex_head x.natAbs
      obtain ⟨b, s, h3, h4⟩ := hex_head y.natAbs
      by_cases hx : x < 0 <;> by_cases hy : y < 0
      · rw [if_pos hx, if_pos hy] at h; have := hex_inj _ _ (List.tail_eq_of_cons_eq h); congr 1; omega
      · rw [if_pos hx, if_neg hy, h3] at h; exact absurd (List.head_eq_of_cons_eq h).symm (dg_ne b h4).1
      · rw [if_neg hx, if_pos hy, h1] at h; exact absurd (List.head_eq_of_cons_eq h) (dg_ne a h2).1
      · rw [if_neg hx, if_neg hy] at h; have := hex_inj _ _ h; congr 1; omega
/-- A digit of a number by a word of it. -/
theorem nib (N j : Nat) : wdn N (j / 16) / 2 ^ (4 * (j % 16)) % 16 = N / 16 ^ j % 16 := by
  unfold wdn
  have e : (16 : Nat) ^ j = 2 ^ (64 * (j / 16)) * 2 ^ (4 * (j % 16)) := by
    rw [← Nat.pow_add, show (16 : Nat) = 2 ^ 4 from rfl, ← Nat.pow_mul]; congr 1; omega
  rw [e, ← Nat.div_div_eq_div_mul]
  generalize N / 2 ^ (64 * (j / 16)) = q
  obtain ⟨r, hr⟩ : ∃ r, r = j % 16 := ⟨_, rfl⟩
  have hlt : r < 16 := by omega
  rw [← hr]
  have h2 : (2 : Nat) ^ 64 = 2 ^ (4 * r) * (16 * 2 ^ (4 * (15 - r))) := by
    rw [show (16 : Nat) * 2 ^ (4 * (15 - r)) = 2 ^ (4 + 4 * (15 - r)) by rw [Nat.pow_add], ← Nat.pow_add]; congr 1; omega
  rw [h2, Nat.mod_mul_right_div_self, Nat.mod_mul_right_mod]
theorem hx_len : ∀ k n : Nat, n < 16 ^ k → (hx n).length ≤ k := by
  intro k
  induction k with
  | zero => intro n h; have : n = 0 := by simpa using h
            rw [this, hx_zero]; simp
  | succ k ih =>
    intro n h
    rcases Nat.eq_zero_or_pos n with h0 | h0
    · rw [h0, hx_zero]; simp
    · rw [hx_pos (by omega), List.length_append]
      have := ih (n / 16) (by rw [Nat.div_lt_iff_lt_mul (by decide), ← Nat.pow_succ]; exact h)
      simp; omega
theorem hx_step (N j : Nat) : N / 16 ^ (j + 1) = N / 16 ^ j / 16 := by rw [Nat.pow_succ, Nat.div_div_eq_div_mul]
/-- One more digit. -/
theorem hx_more (N j : Nat) (h : N / 16 ^ (j + 1) ≠ 0 ∨ N / 16 ^ j % 16 ≠ 0) : hx (N / 16 ^ j) = hx (N / 16 ^ (j + 1)) ++ [dg (N / 16 ^ j % 16)] := by
  rw [hx_step] at h ⊢
  exact hx_pos (by omega)
theorem hx_less (N j : Nat) (h : N / 16 ^ (j + 1) = 0) (h' : N / 16 ^ j % 16 = 0) : hx (N / 16 ^ j) = [] := by
  rw [hx_step] at h
  rw [show N / 16 ^ j = 0 by omega, hx_zero]
theorem hex_last (N : Nat) : hex N = hx (N / 16) ++ [dg (N % 16)] := by
  unfold hex
  by_cases h : N = 0
  · subst h; rw [if_pos rfl]; simp [hx_zero, dg]
  · rw [if_neg h, ← hx_pos h]
theorem text_none (N j : Nat) (h : N / 16 ^ (j + 1) = 0) (h' : N / 16 ^ j % 16 = 0) (h0 : j ≠ 0) : [] = (if j = 0 then hex N else hx (N / 16 ^ j)) := by
  rw [if_neg h0, hx_less N j h h']
theorem text_more (N j d : Nat) (hd : N / 16 ^ j % 16 = d) (h : N / 16 ^ (j + 1) ≠ 0 ∨ d ≠ 0 ∨ j = 0) : hx (N / 16 ^ (j + 1)) ++ [dg d] = (if j = 0 then hex N else hx (N / 16 ^ j)) := by
  subst hd
  by_cases h0 : j = 0
  · subst h0; rw [if_pos rfl, hex_last]; simp
  · rw [if_neg h0]; exact (hx_more N j (by omega)).symm
theorem and_15 (a : Nat) : a &&& 15 = a % 16 := Nat.and_two_pow_sub_one_eq_mod a 4
end Go.Proofs.Ytcmgcndgdfblcaa
