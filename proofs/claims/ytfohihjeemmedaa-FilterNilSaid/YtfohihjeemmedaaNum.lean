/- Plain facts on natural numbers and their words of 64 bits. No program in sight. -/
namespace Go.Proofs.Ytfohihjeemmedaa

/-- Word i (64 bits) of a number. -/
def wdn (N i : Nat) : Nat := N / 2 ^ (64 * i) % 2 ^ 64
/-- The same, as an integer. -/
def wd (N i : Nat) : Int := (wdn N i : Int)

theorem wdn_lt (N i : Nat) : wdn N i < 18446744073709551616 := by
  unfold wdn; exact Nat.mod_lt _ (by decide)
theorem wd_nonneg (N i : Nat) : 0 ≤ wd N i := Int.natCast_nonneg _
theorem wd_lt (N i : Nat) : wd N i < 18446744073709551616 := by
  have := wdn_lt N i; unfold wd; omega
theorem wd_zero (i : Nat) : wd 0 i = 0 := by simp [wd, wdn]
theorem wdn_zero (i : Nat) : wdn 0 i = 0 := by simp [wdn]
theorem wdn_mod (N n i : Nat) (h : i < n) : wdn (N % 2 ^ (64 * n)) i = wdn N i := by
  unfold wdn
  rw [show 64 * n = 64 * i + 64 * (n - i) by omega, Nat.pow_add, Nat.mod_mul_right_div_self]
  rw [show 64 * (n - i) = 64 + 64 * (n - i - 1) by omega, Nat.pow_add, Nat.mod_mul_right_mod]
theorem wd_mod (N n i : Nat) (h : i < n) : wd (N % 2 ^ (64 * n)) i = wd N i := by unfold wd; rw [wdn_mod N n i h]

/-- N cut at word i+1. -/
theorem cut_succ (N i : Nat) : N % 2 ^ (64 * (i + 1)) = N % 2 ^ (64 * i) + 2 ^ (64 * i) * wdn N i := by
  unfold wdn
  rw [show 64 * (i + 1) = 64 * i + 64 by omega, Nat.pow_add, Nat.mod_mul]

theorem div_step (N i : Nat) : N / 2 ^ (64 * i) = wdn N i + 18446744073709551616 * (N / 2 ^ (64 * (i + 1))) := by
  unfold wdn
  rw [show 64 * (i + 1) = 64 * i + 64 by omega, Nat.pow_add, ← Nat.div_div_eq_div_mul]
  have := Nat.mod_add_div (N / 2 ^ (64 * i)) (2 ^ 64)
  exact this.symm

/-- Two numbers of the same words are one. -/
theorem eq_of_wdn (n : Nat) : ∀ N M : Nat, N < 2 ^ (64 * n) → M < 2 ^ (64 * n) → (∀ i, i < n → wdn N i = wdn M i) → N = M := by
  intro N M hN hM h
  have key : ∀ k, k ≤ n → N % 2 ^ (64 * k) = M % 2 ^ (64 * k) := by
    intro k
    induction k with
    | zero => intro _; simp [Nat.mod_one]
    | succ k ih => intro hk; rw [cut_succ, cut_succ, ih (by omega), h k (by omega)]
  have := key n (Nat.le_refl n)
  rwa [Nat.mod_eq_of_lt hN, Nat.mod_eq_of_lt hM] at this

/-! ### Sums -/
/-- The carry into word i of a sum. -/
def carr (N M i : Nat) : Int := (((N % 2 ^ (64 * i) + M % 2 ^ (64 * i)) / 2 ^ (64 * i) : Nat) : Int)
theorem carr_zero (N M : Nat) : carr N M 0 = 0 := by unfold carr; simp [Nat.mod_one]
theorem carr_nonneg (N M i : Nat) : 0 ≤ carr N M i := Int.natCast_nonneg _
theorem carr_le (N M i : Nat) : carr N M i ≤ 1 := by
  unfold carr
  have h := Nat.two_pow_pos (64 * i)
  have h1 := Nat.mod_lt N h
  have h2 := Nat.mod_lt M h
  have : (N % 2 ^ (64 * i) + M % 2 ^ (64 * i)) / 2 ^ (64 * i) < 2 := by
    rw [Nat.div_lt_iff_lt_mul h]; omega
  omega
theorem add_word_aux (N M p : Nat) (hp : 0 < p) : (N + M) / p % 18446744073709551616 = (N / p % 18446744073709551616 + M / p % 18446744073709551616 + (N % p + M % p) / p) % 18446744073709551616 := by
  have h : (N + M) / p = N / p + M / p + (N % p + M % p) / p := by
    rw [Nat.add_div hp]
    have h1 := Nat.mod_lt N hp
    have h2 := Nat.mod_lt M hp
    split
    · rename_i h3
      have : (N % p + M % p) / p = 1 := by
        apply Nat.div_eq_of_lt_le <;> omega
      omega
    · rename_i h3
      have : (N % p + M % p) / p = 0 := Nat.div_eq_of_lt (by omega)
      omega
  rw [h]; omega
theorem add_word (N M i : Nat) : (wd N i + wd M i + carr N M i) % 18446744073709551616 = wd (N + M) i := by
  unfold wd wdn carr
  have := add_word_aux N M (2 ^ (64 * i)) (Nat.two_pow_pos _)
  have e : (2 : Nat) ^ 64 = 18446744073709551616 := rfl
  rw [e]
  omega
theorem carr_succ_aux (a b x y p : Nat) (hp : 0 < p) : ((a + p * x) + (b + p * y)) / (p * 18446744073709551616) = (x + y + (a + b) / p) / 18446744073709551616 := by
  rw [← Nat.div_div_eq_div_mul]
  have : ((a + p * x) + (b + p * y)) / p = (a + b) / p + (x + y) := by
    rw [show (a + p * x) + (b + p * y) = (a + b) + p * (x + y) by rw [Nat.mul_add]; omega]
    rw [Nat.add_mul_div_left _ _ hp]
  rw [this]; congr 1; omega
theorem pow_succ64 (i : Nat) : (2 : Nat) ^ (64 * (i + 1)) = 2 ^ (64 * i) * 18446744073709551616 := by
  rw [show 64 * (i + 1) = 64 * i + 64 by omega, Nat.pow_add]
theorem carr_succ (N M i : Nat) : (wd N i + wd M i + carr N M i) / 18446744073709551616 = carr N M (i + 1) := by
  have h := carr_succ_aux (N % 2 ^ (64 * i)) (M % 2 ^ (64 * i)) (wdn N i) (wdn M i) (2 ^ (64 * i)) (Nat.two_pow_pos _)
  unfold wd carr
  rw [cut_succ N i, cut_succ M i, pow_succ64, h]
  omega
theorem carr_16 (N M : Nat) (hN : N < 2 ^ 1024) (hM : M < 2 ^ 1024) : carr N M 16 = (((N + M) / 2 ^ 1024 : Nat) : Int) := by
  unfold carr
  rw [show 64 * 16 = 1024 from rfl, Nat.mod_eq_of_lt hN, Nat.mod_eq_of_lt hM]

/-! ### Differences -/
/-- The borrow out of the words below i. -/
def borr (N M i : Nat) : Int := if N % 2 ^ (64 * i) < M % 2 ^ (64 * i) then 1 else 0
theorem borr_zero (N M : Nat) : borr N M 0 = 0 := by unfold borr; simp [Nat.mod_one]
theorem borr_nonneg (N M i : Nat) : 0 ≤ borr N M i := by unfold borr; split <;> decide
theorem borr_le (N M i : Nat) : borr N M i ≤ 1 := by unfold borr; split <;> decide
theorem sub_word_aux (N M p : Nat) (hp : 0 < p) (hle : M ≤ N) : (N - M) / p + M / p + (if N % p < M % p then 1 else 0) = N / p := by
  have h1 := Nat.mod_lt N hp
  have h2 := Nat.mod_lt M hp
  have e1 := Nat.div_add_mod N p
  have e2 := Nat.div_add_mod M p
  have hq : M / p ≤ N / p := Nat.div_le_div_right hle
  generalize hA : N / p = A at *
  generalize hB : M / p = Bq at *
  generalize hr : N % p = r at *
  generalize hs : M % p = s at *
  split
  · rename_i hlt
    have hAB : Bq < A := by
      rcases Nat.lt_or_ge Bq A with h | h
      · exact h
      · have : A = Bq := by omega
        subst this; omega
    obtain ⟨d, rfl⟩ := Nat.exists_eq_add_of_lt hAB
    have : N - M = (p + r - s) + p * d := by
      have : p * (Bq + d + 1) = p * Bq + p * d + p := by rw [Nat.mul_add, Nat.mul_add, Nat.mul_one]
      omega
    rw [this, Nat.add_mul_div_left _ _ hp, Nat.div_eq_of_lt (by omega)]
    omega
  · rename_i hlt
    obtain ⟨d, rfl⟩ := Nat.exists_eq_add_of_le hq
    have : N - M = (r - s) + p * d := by
      have : p * (Bq + d) = p * Bq + p * d := by rw [Nat.mul_add]
      omega
    rw [this, Nat.add_mul_div_left _ _ hp, Nat.div_eq_of_lt (by omega)]
    omega
theorem sub_word (N M i : Nat) (hle : M ≤ N) : (wd N i - wd M i - borr N M i) % 18446744073709551616 = wd (N - M) i := by
  have h := sub_word_aux N M (2 ^ (64 * i)) (Nat.two_pow_pos _) hle
  have e : (2 : Nat) ^ 64 = 18446744073709551616 := rfl
  unfold wd wdn borr
  rw [e]
  split at h <;> rename_i hc <;> simp only [hc, if_true, if_false] <;> omega
theorem borr_succ (N M i : Nat) : (if wd N i < wd M i + borr N M i then (1 : Int) else 0) = borr N M (i + 1) := by
  have hp := Nat.two_pow_pos (64 * i)
  have h1 := Nat.mod_lt N hp
  have h2 := Nat.mod_lt M hp
  unfold borr wd
  rw [cut_succ N i, cut_succ M i]
  generalize wdn N i = x
  generalize wdn M i = y
  generalize N % 2 ^ (64 * i) = r at *
  generalize M % 2 ^ (64 * i) = s at *
  generalize 2 ^ (64 * i) = p at *
  have key : (r + p * x < s + p * y) ↔ (x < y ∨ (x = y ∧ r < s)) := by
    constructor
    · intro h
      rcases Nat.lt_trichotomy x y with h3 | h3 | h3
      · exact .inl h3
      · subst h3; exact .inr ⟨rfl, by omega⟩
      · obtain ⟨d, rfl⟩ := Nat.exists_eq_add_of_lt h3
        have : p * (y + d + 1) = p * y + p * d + p := by rw [Nat.mul_add, Nat.mul_add, Nat.mul_one]
        omega
    · rintro (h | ⟨rfl, h⟩)
      · obtain ⟨d, rfl⟩ := Nat.exists_eq_add_of_lt h
        have : p * (x + d + 1) = p * x + p * d + p := by rw [Nat.mul_add, Nat.mul_add, Nat.mul_one]
        omega
      · omega
  by_cases hc : r + p * x < s + p * y
  · rw [if_pos hc]
    rw [key] at hc
    rcases hc with h | ⟨h, h'⟩
    · by_cases h3 : r < s <;> simp only [h3, if_true, if_false] <;> rw [if_pos (by omega)]
    · simp only [h', if_true]; rw [if_pos (by omega)]
  · rw [if_neg hc]
    rw [key] at hc
    by_cases h3 : r < s
    · simp only [h3, if_true]; rw [if_neg]; intro h4; apply hc; by_cases h5 : x < y
      · exact .inl h5
      · exact .inr ⟨by omega, h3⟩
    · simp only [h3, if_false]; rw [if_neg]; intro h4; apply hc; exact .inl (by omega)

theorem pow2_le (a b : Nat) (h : a ≤ b) : (2 : Nat) ^ a ≤ 2 ^ b := Nat.pow_le_pow_right (by decide) h

/-! ### How many bits, how many words -/
/-- How many bits a number has. -/
def bl (N : Nat) : Nat := if N = 0 then 0 else Nat.log2 N + 1
theorem bl_zero : bl 0 = 0 := rfl
theorem bl_lt (N : Nat) : N < 2 ^ bl N := by
  unfold bl; split
  · rename_i h; subst h; simp
  · exact Nat.lt_log2_self
theorem bl_le_self (N : Nat) (h : N ≠ 0) : 2 ^ (bl N - 1) ≤ N := by
  unfold bl; rw [if_neg h]; exact Nat.log2_self_le h
theorem bl_le_iff (N k : Nat) : bl N ≤ k ↔ N < 2 ^ k := by
  constructor
  · intro h; exact Nat.lt_of_lt_of_le (bl_lt N) (Nat.pow_le_pow_right (by decide) h)
  · intro h
    by_cases h0 : N = 0
    · subst h0; simp [bl]
    · have h1 := bl_le_self N h0
      have h2 : 2 ^ (bl N - 1) < 2 ^ k := Nat.lt_of_le_of_lt h1 h
      have := (Nat.pow_lt_pow_iff_right (by decide : 1 < 2)).1 h2
      omega
theorem bl_unique (N k : Nat) (h1 : N < 2 ^ k) (h2 : k = 0 ∨ 2 ^ (k - 1) ≤ N) : bl N = k := by
  have a := (bl_le_iff N k).2 h1
  rcases h2 with rfl | h2
  · omega
  · by_cases h : bl N ≤ k - 1
    · have := (bl_le_iff N (k - 1)).1 h
      by_cases hk : k = 0
      · omega
      · omega
    · omega
theorem bl_pos (N : Nat) (h : N ≠ 0) : 0 < bl N := by unfold bl; rw [if_neg h]; omega
/-- How many words a number has. -/
def np (N : Nat) : Nat := (bl N + 63) / 64
theorem np_le_iff (N n : Nat) : np N ≤ n ↔ N < 2 ^ (64 * n) := by
  rw [← bl_le_iff]; unfold np; omega
theorem np_lt (N : Nat) : N < 2 ^ (64 * np N) := (np_le_iff N _).1 (Nat.le_refl _)
theorem np_unique (N n : Nat) (h1 : N < 2 ^ (64 * n)) (h2 : n = 0 ∨ 2 ^ (64 * (n - 1)) ≤ N) : np N = n := by
  have a := (np_le_iff N n).2 h1
  rcases h2 with rfl | h2
  · omega
  · by_cases h : np N ≤ n - 1
    · have := (np_le_iff N (n - 1)).1 h
      by_cases hk : n = 0 <;> omega
    · omega
theorem np_zero_iff (N : Nat) : np N = 0 ↔ N = 0 := by
  constructor
  · intro h; have := np_lt N; rw [h] at this; simpa using this
  · rintro rfl; rfl
theorem np_le_self (N : Nat) (h : N ≠ 0) : 2 ^ (64 * (np N - 1)) ≤ N := by
  rcases Nat.lt_or_ge N (2 ^ (64 * (np N - 1))) with h1 | h1
  · have := (np_le_iff N (np N - 1)).2 h1
    have : np N ≠ 0 := fun h0 => h ((np_zero_iff N).1 h0)
    omega
  · exact h1
/-- A step down the words: the word at k is 0. -/
theorem lt_pow_of_wdn_zero (N k : Nat) (h : N < 2 ^ (64 * (k + 1))) (h0 : wdn N k = 0) : N < 2 ^ (64 * k) := by
  have hd := div_step N k
  have : N / 2 ^ (64 * (k + 1)) = 0 := Nat.div_eq_of_lt h
  rw [this, h0] at hd
  have hz : N / 2 ^ (64 * k) = 0 := by omega
  exact (Nat.div_eq_zero_iff_lt (Nat.two_pow_pos _)).1 hz
theorem pow_le_of_wdn_ne (N k : Nat) (h0 : wdn N k ≠ 0) : 2 ^ (64 * k) ≤ N := by
  rcases Nat.lt_or_ge N (2 ^ (64 * k)) with h | h
  · exfalso; apply h0; unfold wdn; rw [Nat.div_eq_of_lt h]
  · exact h
theorem wdn_top (N k : Nat) (h : N < 2 ^ (64 * (k + 1))) : wdn N k = N / 2 ^ (64 * k) := by
  have hd := div_step N k
  have : N / 2 ^ (64 * (k + 1)) = 0 := Nat.div_eq_of_lt h
  rw [this] at hd; omega
/-- The bits of a number by the bits of its highest word. -/
theorem bl_top (N k : Nat) (h : N < 2 ^ (64 * (k + 1))) (h0 : wdn N k ≠ 0) : bl N = 64 * k + bl (wdn N k) := by
  have ht := wdn_top N k h
  have hb := bl_pos _ h0
  apply bl_unique
  · rw [Nat.pow_add]
    have h1 := bl_lt (wdn N k)
    rw [ht] at h1 ⊢
    rw [Nat.mul_comm]
    exact (Nat.div_lt_iff_lt_mul (Nat.two_pow_pos _)).1 h1
  · right
    rw [show 64 * k + bl (wdn N k) - 1 = 64 * k + (bl (wdn N k) - 1) by omega, Nat.pow_add, Nat.mul_comm]
    have h1 := bl_le_self _ h0
    rw [ht] at h1 ⊢
    exact (Nat.le_div_iff_mul_le (Nat.two_pow_pos _)).1 h1

/-! ### Which is less -/
def cmpN (N M : Nat) : Int := if N < M then -1 else if M < N then 1 else 0
theorem lt_of_word (N M k : Nat) (h : N / 2 ^ (64 * (k + 1)) = M / 2 ^ (64 * (k + 1))) (hw : wd N k < wd M k) : N < M := by
  have h1 := div_step N k
  have h2 := div_step M k
  have : N / 2 ^ (64 * k) < M / 2 ^ (64 * k) := by unfold wd at hw; omega
  rcases Nat.lt_or_ge N M with h3 | h3
  · exact h3
  · have := Nat.div_le_div_right (c := 2 ^ (64 * k)) h3; omega
theorem word_step (N M k : Nat) (h : N / 2 ^ (64 * (k + 1)) = M / 2 ^ (64 * (k + 1))) (h1 : ¬ wd N k < wd M k) (h2 : ¬ wd M k < wd N k) : N / 2 ^ (64 * k) = M / 2 ^ (64 * k) := by
  rw [div_step N k, div_step M k, h]; unfold wd at *; omega

/-! ### One word set -/
/-- Word k set to v. -/
def setw (A k v : Nat) : Nat := A - wdn A k * 2 ^ (64 * k) + v * 2 ^ (64 * k)
theorem wdn_mul_le (A k : Nat) : wdn A k * 2 ^ (64 * k) ≤ A := by
  unfold wdn
  calc A / 2 ^ (64 * k) % 2 ^ 64 * 2 ^ (64 * k) ≤ A / 2 ^ (64 * k) * 2 ^ (64 * k) := Nat.mul_le_mul_right _ (Nat.mod_le _ _)
    _ ≤ A := Nat.div_mul_le_self _ _
/-- A number by its words below k, word k, and those above. -/
theorem split3 (A k : Nat) : A = A % 2 ^ (64 * k) + 2 ^ (64 * k) * wdn A k + 2 ^ (64 * (k + 1)) * (A / 2 ^ (64 * (k + 1))) := by
  have h := Nat.mod_add_div A (2 ^ (64 * (k + 1)))
  rw [cut_succ] at h
  exact h.symm
theorem setw_split (A k v : Nat) : setw A k v = A % 2 ^ (64 * k) + 2 ^ (64 * k) * v + 2 ^ (64 * (k + 1)) * (A / 2 ^ (64 * (k + 1))) := by
  have h := split3 A k
  unfold setw
  rw [Nat.mul_comm (wdn A k), Nat.mul_comm v]
  have := wdn_mul_le A k
  rw [Nat.mul_comm] at this
  omega
theorem mod_setw (A k v : Nat) : setw A k v % 2 ^ (64 * k) = A % 2 ^ (64 * k) := by
  rw [setw_split, pow_succ64, Nat.mul_assoc, Nat.add_assoc, ← Nat.mul_add, Nat.add_mul_mod_self_left, Nat.mod_mod]
theorem div_setw (A k v : Nat) (hv : v < 18446744073709551616) : setw A k v / 2 ^ (64 * (k + 1)) = A / 2 ^ (64 * (k + 1)) := by
  rw [setw_split, Nat.add_mul_div_left _ _ (Nat.two_pow_pos _)]
  rw [Nat.div_eq_of_lt, Nat.zero_add]
  have h1 := Nat.mod_lt A (Nat.two_pow_pos (64 * k))
  rw [pow_succ64]
  generalize 2 ^ (64 * k) = p at *
  have h2 : p * v ≤ p * 18446744073709551615 := Nat.mul_le_mul_left _ (by omega)
  omega
theorem wdn_setw_same (A k v : Nat) (hv : v < 18446744073709551616) : wdn (setw A k v) k = v := by
  have h1 := split3 (setw A k v) k
  rw [mod_setw, div_setw A k v hv] at h1
  have h2 := setw_split A k v
  have hp := Nat.two_pow_pos (64 * k)
  have : 2 ^ (64 * k) * wdn (setw A k v) k = 2 ^ (64 * k) * v := by omega
  exact Nat.eq_of_mul_eq_mul_left hp this
theorem wdn_setw_other (A k v j : Nat) (hv : v < 18446744073709551616) (hj : j ≠ k) : wdn (setw A k v) j = wdn A j := by
  rcases Nat.lt_or_gt_of_ne hj with h | h
  · rw [← wdn_mod (setw A k v) k j h, mod_setw, wdn_mod _ _ _ h]
  · obtain ⟨d, rfl⟩ := Nat.exists_eq_add_of_lt h
    have e : ∀ X : Nat, wdn X (k + d + 1) = wdn (X / 2 ^ (64 * (k + 1))) d := fun X => by
      unfold wdn
      rw [Nat.div_div_eq_div_mul, ← Nat.pow_add]
      congr 3; omega
    rw [e, e, div_setw A k v hv]
theorem setw_lt (A k v n : Nat) (hv : v < 18446744073709551616) (hk : k < n) (hA : A < 2 ^ (64 * n)) : setw A k v < 2 ^ (64 * n) := by
  have h1 := div_setw A k v hv
  have e : ∀ X : Nat, X / 2 ^ (64 * n) = X / 2 ^ (64 * (k + 1)) / 2 ^ (64 * (n - k - 1)) := fun X => by
    rw [Nat.div_div_eq_div_mul, ← Nat.pow_add]; congr 2; omega
  have h0 : setw A k v / 2 ^ (64 * n) = 0 := by
    rw [e, h1, ← e]; exact Nat.div_eq_of_lt hA
  exact (Nat.div_eq_zero_iff_lt (Nat.two_pow_pos _)).1 h0
theorem setw_add (A k v c : Nat) (h : wdn A k + c = v) : setw A k v = A + c * 2 ^ (64 * k) := by
  subst h
  have := wdn_mul_le A k
  unfold setw
  rw [Nat.add_mul]
  omega
theorem wdn_eq_zero_of_lt (A k n : Nat) (h : A < 2 ^ (64 * n)) (hk : n ≤ k) : wdn A k = 0 := by
  unfold wdn
  rw [Nat.div_eq_of_lt]
  exact Nat.lt_of_lt_of_le h (Nat.pow_le_pow_right (by decide) (by omega))

end Go.Proofs.Ytfohihjeemmedaa
