/- The plain law of long division by words of 64 bits, and of shifts. No program in sight. -/
import Derived.Test.YtfohihjeemmedaaNum
namespace Go.Proofs.Ytfohihjeemmedaa

/-! ### The top words -/
theorem top2 (U k : Nat) (h : U < 2 ^ (64 * (k + 2))) : U / 2 ^ (64 * k) = wdn U (k + 1) * 18446744073709551616 + wdn U k := by
  rw [div_step U k, ← wdn_top U (k + 1) h]; omega
theorem top3 (U k : Nat) (h : U < 2 ^ (64 * (k + 3))) : U / 2 ^ (64 * k) = (wdn U (k + 2) * 18446744073709551616 + wdn U (k + 1)) * 18446744073709551616 + wdn U k := by
  rw [div_step U k, top2 U (k + 1) h, show k + 1 + 1 = k + 2 from rfl]; omega
/-! ### The digit that is tried is never too small -/
theorem est (U W P v : Nat) (hv : 0 < v) (hP : 0 < P) (h : v * P ≤ W) : U / W ≤ U / P / v := by
  rw [Nat.div_div_eq_div_mul, Nat.mul_comm P v]
  exact Nat.div_le_div_left h (Nat.mul_pos hv hP)
theorem est1 (U W k v1 : Nat) (hv : 0 < v1) (hU : U < 2 ^ (64 * (k + 2))) (h : v1 * 2 ^ (64 * k) ≤ W) : U / W ≤ (wdn U (k + 1) * 18446744073709551616 + wdn U k) / v1 := by
  rw [← top2 U k hU]; exact est U W _ v1 hv (Nat.two_pow_pos _) h
theorem est2_aux (d v1 v2 l u B : Nat) (hv : 0 < v1 * B + v2) (h : l * B + u < d * v2) : ((d * v1 + l) * B + u) / (v1 * B + v2) < d := by
  rw [Nat.div_lt_iff_lt_mul hv]
  have e : d * (v1 * B + v2) = d * v1 * B + d * v2 := by rw [Nat.mul_add, Nat.mul_assoc]
  have e2 : (d * v1 + l) * B = d * v1 * B + l * B := Nat.add_mul _ _ _
  omega
theorem est2 (U W k v1 v2 d l : Nat) (hv : 0 < v1) (hU : U < 2 ^ (64 * (k + 3))) (h : (v1 * 18446744073709551616 + v2) * 2 ^ (64 * k) ≤ W)
    (hd : d * v1 + l = wdn U (k + 2) * 18446744073709551616 + wdn U (k + 1)) (hgt : l * 18446744073709551616 + wdn U k < d * v2) : U / W < d := by
  have h1 := est U W _ (v1 * 18446744073709551616 + v2) (by omega) (Nat.two_pow_pos (64 * k)) h
  rw [top3 U k hU, ← hd] at h1
  have h2 := est2_aux d v1 v2 l (wdn U k) 18446744073709551616 (by omega) hgt
  exact Nat.lt_of_le_of_lt h1 h2
theorem top_le1 (V n j : Nat) (hn : 1 ≤ n) : wdn V (n - 1) * 2 ^ (64 * (j + n - 1)) ≤ V * 2 ^ (64 * j) := by
  rw [show 64 * (j + n - 1) = 64 * (n - 1) + 64 * j by omega, Nat.pow_add, ← Nat.mul_assoc]
  exact Nat.mul_le_mul_right _ (wdn_mul_le V (n - 1))
theorem top_le2 (V n j : Nat) (hn : 2 ≤ n) (hV : V < 2 ^ (64 * n)) : (wdn V (n - 1) * 18446744073709551616 + wdn V (n - 2)) * 2 ^ (64 * (j + n - 2)) ≤ V * 2 ^ (64 * j) := by
  rw [show 64 * (j + n - 2) = 64 * (n - 2) + 64 * j by omega, Nat.pow_add, ← Nat.mul_assoc]
  refine Nat.mul_le_mul_right _ ?_
  have h := top2 V (n - 2) (by rw [show n - 2 + 2 = n by omega]; exact hV)
  rw [show n - 2 + 1 = n - 1 by omega] at h
  rw [← h]
  exact Nat.div_mul_le_self _ _

/-! ### So often v is taken away, word by word -/
theorem ms_step (A x V U c bo i j t low c' bo' : Nat) (h : A + x * (V % 2 ^ (64 * i)) * 2 ^ (64 * j) = U + (bo + c) * 2 ^ (64 * (i + j)))
    (hm : x * wdn V i + c = c' * 18446744073709551616 + low) (ht : t + low + bo = wdn A (i + j) + bo' * 18446744073709551616) :
    setw A (i + j) t + x * (V % 2 ^ (64 * (i + 1))) * 2 ^ (64 * j) = U + (bo' + c') * 2 ^ (64 * (i + 1 + j)) := by
  have hle := wdn_mul_le A (i + j)
  rw [cut_succ V i, show i + 1 + j = (i + j) + 1 by omega, pow_succ64 (i + j)]
  have e1 : x * (V % 2 ^ (64 * i) + 2 ^ (64 * i) * wdn V i) * 2 ^ (64 * j) = x * (V % 2 ^ (64 * i)) * 2 ^ (64 * j) + x * wdn V i * 2 ^ (64 * (i + j)) := by
    rw [Nat.mul_add, Nat.add_mul, show 64 * (i + j) = 64 * i + 64 * j by omega, Nat.pow_add]
    congr 1
    rw [← Nat.mul_assoc, ← Nat.mul_assoc, Nat.mul_assoc x, Nat.mul_comm (2 ^ (64 * i)), ← Nat.mul_assoc]
  rw [e1]
  unfold setw
  generalize 2 ^ (64 * (i + j)) = p at *
  have e2 : (x * wdn V i + c) * p = (c' * 18446744073709551616 + low) * p := by rw [hm]
  have e3 : (t + low + bo) * p = (wdn A (i + j) + bo' * 18446744073709551616) * p := by rw [ht]
  simp only [Nat.add_mul] at e2 e3 h ⊢
  have e4 : ∀ y : Nat, y * (p * 18446744073709551616) = y * 18446744073709551616 * p := fun y => by
    rw [Nat.mul_comm p, ← Nat.mul_assoc]
  rw [e4, e4]
  omega
theorem ms_last (A X U c bo k t bo' : Nat) (h : A + X = U + (bo + c) * 2 ^ (64 * k)) (ht : t + c + bo = wdn A k + bo' * 18446744073709551616) :
    setw A k t + X = U + bo' * 2 ^ (64 * (k + 1)) := by
  have hle := wdn_mul_le A k
  rw [pow_succ64 k]
  unfold setw
  generalize 2 ^ (64 * k) = p at *
  have e3 : (t + c + bo) * p = (wdn A k + bo' * 18446744073709551616) * p := by rw [ht]
  simp only [Nat.add_mul] at e3 h ⊢
  have e4 : ∀ y : Nat, y * (p * 18446744073709551616) = y * 18446744073709551616 * p := fun y => by
    rw [Nat.mul_comm p, ← Nat.mul_assoc]
  rw [e4]
  omega
/-- One word added, and what is carried. -/
theorem ab_step (A A0 V c i j t c' : Nat) (h : A + c * 2 ^ (64 * (i + j)) = A0 + V % 2 ^ (64 * i) * 2 ^ (64 * j)) (ht : t + c' * 18446744073709551616 = wdn A (i + j) + wdn V i + c) :
    setw A (i + j) t + c' * 2 ^ (64 * (i + 1 + j)) = A0 + V % 2 ^ (64 * (i + 1)) * 2 ^ (64 * j) := by
  have hle := wdn_mul_le A (i + j)
  rw [cut_succ V i, show i + 1 + j = (i + j) + 1 by omega, pow_succ64 (i + j)]
  have e1 : (V % 2 ^ (64 * i) + 2 ^ (64 * i) * wdn V i) * 2 ^ (64 * j) = V % 2 ^ (64 * i) * 2 ^ (64 * j) + wdn V i * 2 ^ (64 * (i + j)) := by
    rw [Nat.add_mul, show 64 * (i + j) = 64 * i + 64 * j by omega, Nat.pow_add]
    congr 1
    rw [Nat.mul_comm (2 ^ (64 * i)), Nat.mul_assoc]
  rw [e1]
  unfold setw
  generalize 2 ^ (64 * (i + j)) = p at *
  have e3 : (t + c' * 18446744073709551616) * p = (wdn A (i + j) + wdn V i + c) * p := by rw [ht]
  simp only [Nat.add_mul] at e3 h ⊢
  have e4 : ∀ y : Nat, y * (p * 18446744073709551616) = y * 18446744073709551616 * p := fun y => by
    rw [Nat.mul_comm p, ← Nat.mul_assoc]
  rw [e4]
  omega
theorem ab_last (A X c k t c' : Nat) (h : A + c * 2 ^ (64 * k) = X) (ht : t + c' * 18446744073709551616 = wdn A k + c) :
    setw A k t + c' * 2 ^ (64 * (k + 1)) = X := by
  have hle := wdn_mul_le A k
  rw [pow_succ64 k]
  unfold setw
  generalize 2 ^ (64 * k) = p at *
  have e3 : (t + c' * 18446744073709551616) * p = (wdn A k + c) * p := by rw [ht]
  simp only [Nat.add_mul] at e3 h ⊢
  have e4 : ∀ y : Nat, y * (p * 18446744073709551616) = y * 18446744073709551616 * p := fun y => by
    rw [Nat.mul_comm p, ← Nat.mul_assoc]
  rw [e4]
  omega
/-- One turn of adding back. -/
theorem ab_turn (A A1 d W U bo c P : Nat) (hd : 0 < d) (h : A + d * W = U + bo * P) (h1 : A1 + c * P = A + W) (hc : c ≤ bo) : A1 + (d - 1) * W = U + (bo - c) * P := by
  obtain ⟨e, rfl⟩ : ∃ e, d = e + 1 := ⟨d - 1, by omega⟩
  obtain ⟨f, rfl⟩ : ∃ f, bo = f + c := ⟨bo - c, by omega⟩
  rw [Nat.add_sub_cancel, Nat.add_sub_cancel]
  simp only [Nat.add_mul, Nat.one_mul] at h ⊢
  omega
/-- While a borrow is left, the digit is too great. -/
theorem too_great (A d W U P : Nat) (hA : A < P) (hW : 0 < W) (h : A + d * W = U + 1 * P) : U / W < d := by
  rw [Nat.div_lt_iff_lt_mul hW]; omega
/-- Where none is left, it is the digit. -/
theorem digit_done (A d W U : Nat) (hW : 0 < W) (hd : U / W ≤ d) (h : A + d * W = U) : d = U / W ∧ A = U % W := by
  have h1 : d ≤ U / W := by rw [Nat.le_div_iff_mul_le hW]; omega
  have h2 : d = U / W := by omega
  refine ⟨h2, ?_⟩
  have h3 := Nat.div_add_mod U W
  rw [← h2, Nat.mul_comm] at h3
  omega
/-- A digit is below 2^64. -/
theorem digit_lt (U V j : Nat) (hV : 0 < V) (h : U < V * 2 ^ (64 * (j + 1))) : U / (V * 2 ^ (64 * j)) < 18446744073709551616 := by
  rw [Nat.div_lt_iff_lt_mul (Nat.mul_pos hV (Nat.two_pow_pos _)), Nat.mul_comm, Nat.mul_assoc, ← pow_succ64]
  exact h

/-! ### One digit behind another -/
theorem quo_step (N W : Nat) : N / W = N / (W * 18446744073709551616) * 18446744073709551616 + N % (W * 18446744073709551616) / W := by
  have h := Nat.div_add_mod N (W * 18446744073709551616)
  rcases Nat.eq_zero_or_pos W with rfl | hW
  · simp
  · conv => lhs; rw [← h]
    rw [Nat.mul_assoc, Nat.mul_add_div hW]
    rw [Nat.mul_comm (18446744073709551616)]
theorem setw_quo (a j d : Nat) : setw (a * 2 ^ (64 * (j + 1))) j d = (a * 18446744073709551616 + d) * 2 ^ (64 * j) := by
  have h0 : wdn (a * 2 ^ (64 * (j + 1))) j + d = d := by
    have : wdn (a * 2 ^ (64 * (j + 1))) j = 0 := by
      unfold wdn
      rw [pow_succ64, Nat.mul_comm (2 ^ (64 * j)), ← Nat.mul_assoc, Nat.mul_div_cancel _ (Nat.two_pow_pos _)]
      exact Nat.mul_mod_left _ _
    omega
  rw [setw_add _ _ _ _ h0, pow_succ64, Nat.add_mul, Nat.mul_comm (2 ^ (64 * j)), ← Nat.mul_assoc]
/-- The quotient's words from k on, one word more. -/
theorem quo_words (N V j d : Nat) (hd : d = N % (V * 2 ^ (64 * (j + 1))) / (V * 2 ^ (64 * j))) :
    setw (N / (V * 2 ^ (64 * (j + 1))) * 2 ^ (64 * (j + 1))) j d = N / (V * 2 ^ (64 * j)) * 2 ^ (64 * j) := by
  rw [setw_quo, quo_step N (V * 2 ^ (64 * j)), Nat.mul_assoc V, ← pow_succ64, hd]
theorem rest_words (N V j : Nat) : N % (V * 2 ^ (64 * (j + 1))) % (V * 2 ^ (64 * j)) = N % (V * 2 ^ (64 * j)) := by
  rw [pow_succ64, ← Nat.mul_assoc, Nat.mod_mul_right_mod]
/-- By one word: a digit, what is left. -/
theorem one_words (N b k : Nat) (hb : 0 < b) : ((N / 2 ^ (64 * (k + 1)) % b) * 18446744073709551616 + wdn N k) / b + N / 2 ^ (64 * (k + 1)) / b * 18446744073709551616 = N / 2 ^ (64 * k) / b ∧
    ((N / 2 ^ (64 * (k + 1)) % b) * 18446744073709551616 + wdn N k) % b = N / 2 ^ (64 * k) % b := by
  rw [div_step N k]
  generalize N / 2 ^ (64 * (k + 1)) = x
  generalize wdn N k = y
  have h := Nat.div_add_mod x b
  generalize x / b = q at *
  generalize x % b = r at *
  subst h
  have e : y + 18446744073709551616 * (b * q + r) = (r * 18446744073709551616 + y) + b * (q * 18446744073709551616) := by
    rw [Nat.mul_add, Nat.mul_left_comm, Nat.mul_comm 18446744073709551616 q]; omega
  rw [e]
  exact ⟨by rw [Nat.add_mul_div_left _ _ hb], by rw [Nat.add_mul_mod_self_left]⟩
/-- A number shifted up so that its highest bit is a word's: what is above. -/
theorem norm_lt (N M m n s : Nat) (hN : N < 2 ^ (64 * m)) (hM : 2 ^ (64 * (n - 1)) ≤ M) (hn : 1 ≤ n) (hmn : n ≤ m) : N * 2 ^ s < M * 2 ^ s * 2 ^ (64 * (m - n + 1)) := by
  rw [Nat.mul_right_comm]
  refine Nat.mul_lt_mul_of_pos_right (Nat.lt_of_lt_of_le hN ?_) (Nat.two_pow_pos _)
  rw [show 64 * m = 64 * (n - 1) + 64 * (m - n + 1) by omega, Nat.pow_add]
  exact Nat.mul_le_mul_right _ hM
theorem mod_scale (N M s : Nat) : N * 2 ^ s % (M * 2 ^ s) / 2 ^ s = N % M := by
  rw [Nat.mul_mod_mul_right, Nat.mul_div_cancel _ (Nat.two_pow_pos _)]
theorem div_scale (N M s : Nat) : N * 2 ^ s / (M * 2 ^ s) = N / M := Nat.mul_div_mul_right _ _ (Nat.two_pow_pos _)

/-! ### Shifts -/
/-- Two parts of a word, side by side. -/
theorem or_parts (a b r : Nat) (hb : b < 2 ^ r) : (a * 2 ^ r) ||| b = a * 2 ^ r + b := by
  rw [Nat.mul_comm, Nat.two_pow_add_eq_or_of_lt hb]
/-- A word of a number shifted up by less than a word. -/
theorem wdn_up0 (N r : Nat) : wdn (N * 2 ^ r) 0 = wdn N 0 * 2 ^ r % 18446744073709551616 := by
  unfold wdn
  simp only [Nat.mul_zero, Nat.pow_zero, Nat.div_one]
  rw [Nat.mul_mod]
  conv => rhs; rw [Nat.mul_mod]
  simp
theorem wdn_up (N r i : Nat) (hr : r ≤ 64) : wdn (N * 2 ^ r) (i + 1) = wdn N (i + 1) * 2 ^ r % 18446744073709551616 + wdn N i / 2 ^ (64 - r) := by
  have h1 : N * 2 ^ r / 2 ^ (64 * (i + 1)) = N / 2 ^ (64 * i) / 2 ^ (64 - r) := by
    rw [Nat.div_div_eq_div_mul, ← Nat.pow_add, show 64 * (i + 1) = r + (64 * i + (64 - r)) by omega, Nat.pow_add, Nat.mul_comm N, Nat.mul_div_mul_left _ _ (Nat.two_pow_pos _)]
  have h2 := div_step N i
  have h3 := div_step N (i + 1)
  have hp : (18446744073709551616 : Nat) = 2 ^ r * 2 ^ (64 - r) := by rw [← Nat.pow_add, show r + (64 - r) = 64 by omega]
  have hlt := wdn_lt N i
  show N * 2 ^ r / 2 ^ (64 * (i + 1)) % 18446744073709551616 = _
  rw [h1, h2]
  generalize hx : wdn N (i + 1) = x at *
  generalize wdn N i = y at *
  rw [h3]
  generalize N / 2 ^ (64 * (i + 1 + 1)) = z
  have hq : (y + 18446744073709551616 * (x + 18446744073709551616 * z)) / 2 ^ (64 - r) = y / 2 ^ (64 - r) + x * 2 ^ r + 18446744073709551616 * (z * 2 ^ r) := by
    have : y + 18446744073709551616 * (x + 18446744073709551616 * z) = y + 2 ^ (64 - r) * (x * 2 ^ r + 18446744073709551616 * (z * 2 ^ r)) := by
      generalize 2 ^ r = P at *
      generalize 2 ^ (64 - r) = Q at *
      generalize 18446744073709551616 = B at *
      subst hp; grind
    rw [this, Nat.add_mul_div_left _ _ (Nat.two_pow_pos _)]
    omega
  rw [hq, Nat.add_mul_mod_self_left]
  have hy : y / 2 ^ (64 - r) < 2 ^ r := by
    rw [Nat.div_lt_iff_lt_mul (Nat.two_pow_pos _), ← hp]; exact hlt
  have hm : x * 2 ^ r % 18446744073709551616 = (x % 2 ^ (64 - r)) * 2 ^ r := by
    rw [hp, Nat.mul_comm (2 ^ r) (2 ^ (64 - r)), Nat.mul_mod_mul_right]
  have hb : (x % 2 ^ (64 - r)) * 2 ^ r + 2 ^ r ≤ 18446744073709551616 := by
    have := Nat.mod_lt x (Nat.two_pow_pos (64 - r))
    calc (x % 2 ^ (64 - r)) * 2 ^ r + 2 ^ r = (x % 2 ^ (64 - r) + 1) * 2 ^ r := by rw [Nat.add_mul, Nat.one_mul]
      _ ≤ 2 ^ (64 - r) * 2 ^ r := Nat.mul_le_mul_right _ this
      _ = 18446744073709551616 := by rw [Nat.mul_comm]; exact hp.symm
  have hdm := Nat.div_add_mod (x * 2 ^ r) 18446744073709551616
  rw [← hm] at hb
  generalize y / 2 ^ (64 - r) = a at *
  generalize 2 ^ r = P at *
  generalize x * P = b at *
  omega
/-- The parts of such a word, side by side. -/
theorem wdn_up_or (N r i : Nat) (hr : r ≤ 64) : (wdn N (i + 1) * 2 ^ r % 18446744073709551616) ||| (wdn N i / 2 ^ (64 - r)) = wdn (N * 2 ^ r) (i + 1) := by
  have hp : (18446744073709551616 : Nat) = 2 ^ (64 - r) * 2 ^ r := by rw [← Nat.pow_add, show (64 - r) + r = 64 by omega]
  rw [wdn_up N r i hr]
  conv => lhs; rw [hp, Nat.mul_mod_mul_right]
  rw [or_parts]
  · rw [← Nat.mul_mod_mul_right, ← hp]
  · rw [Nat.div_lt_iff_lt_mul (Nat.two_pow_pos _), Nat.mul_comm, ← hp]; exact wdn_lt N i
/-- Whole words up. -/
theorem wdn_shift (N d i : Nat) : wdn (N * 2 ^ (64 * d)) (i + d) = wdn N i := by
  unfold wdn
  rw [show 64 * (i + d) = 64 * i + 64 * d by omega, Nat.pow_add, Nat.mul_div_mul_right _ _ (Nat.two_pow_pos _)]
theorem wdn_drop (N d i : Nat) : wdn (N / 2 ^ (64 * d)) i = wdn N (i + d) := by
  unfold wdn
  rw [Nat.div_div_eq_div_mul, ← Nat.pow_add, show 64 * d + 64 * i = 64 * (i + d) by omega]
/-- A word of a number shifted down by less than a word. -/
theorem wdn_down (N r i : Nat) (hr : r ≤ 64) : wdn (N / 2 ^ r) i = wdn N i / 2 ^ r + wdn N (i + 1) * 2 ^ (64 - r) % 18446744073709551616 := by
  have hp : (18446744073709551616 : Nat) = 2 ^ r * 2 ^ (64 - r) := by rw [← Nat.pow_add, show r + (64 - r) = 64 by omega]
  show N / 2 ^ r / 2 ^ (64 * i) % 18446744073709551616 = _
  have e1 : N / 2 ^ r / 2 ^ (64 * i) = N / 2 ^ (64 * i) / 2 ^ r := by rw [Nat.div_div_eq_div_mul, Nat.mul_comm, ← Nat.div_div_eq_div_mul]
  rw [e1, div_step N i, div_step N (i + 1)]
  have hlt := wdn_lt N i
  generalize wdn N (i + 1) = x
  generalize wdn N i = y at *
  generalize N / 2 ^ (64 * (i + 1 + 1)) = z
  have hq : (y + 18446744073709551616 * (x + 18446744073709551616 * z)) / 2 ^ r = y / 2 ^ r + x * 2 ^ (64 - r) + 18446744073709551616 * (z * 2 ^ (64 - r)) := by
    have : y + 18446744073709551616 * (x + 18446744073709551616 * z) = y + 2 ^ r * (x * 2 ^ (64 - r) + 18446744073709551616 * (z * 2 ^ (64 - r))) := by
      generalize 2 ^ r = P at *
      generalize 2 ^ (64 - r) = Q at *
      generalize 18446744073709551616 = B at *
      subst hp; grind
    rw [this, Nat.add_mul_div_left _ _ (Nat.two_pow_pos _)]
    omega
  rw [hq, Nat.add_mul_mod_self_left]
  have hy : y / 2 ^ r < 2 ^ (64 - r) := by
    rw [Nat.div_lt_iff_lt_mul (Nat.two_pow_pos _), Nat.mul_comm, ← hp]; exact hlt
  have hm : x * 2 ^ (64 - r) % 18446744073709551616 = (x % 2 ^ r) * 2 ^ (64 - r) := by
    rw [hp, Nat.mul_mod_mul_right]
  have hb : (x % 2 ^ r) * 2 ^ (64 - r) + 2 ^ (64 - r) ≤ 18446744073709551616 := by
    have := Nat.mod_lt x (Nat.two_pow_pos r)
    calc (x % 2 ^ r) * 2 ^ (64 - r) + 2 ^ (64 - r) = (x % 2 ^ r + 1) * 2 ^ (64 - r) := by rw [Nat.add_mul, Nat.one_mul]
      _ ≤ 2 ^ r * 2 ^ (64 - r) := Nat.mul_le_mul_right _ this
      _ = 18446744073709551616 := hp.symm
  have hdm := Nat.div_add_mod (x * 2 ^ (64 - r)) 18446744073709551616
  rw [← hm] at hb
  generalize y / 2 ^ r = a at *
  generalize 2 ^ (64 - r) = P at *
  generalize x * P = b at *
  omega
theorem wdn_down_or (N r i : Nat) (hr : r ≤ 64) : (wdn N i / 2 ^ r) ||| (wdn N (i + 1) * 2 ^ (64 - r) % 18446744073709551616) = wdn (N / 2 ^ r) i := by
  have hp : (18446744073709551616 : Nat) = 2 ^ r * 2 ^ (64 - r) := by rw [← Nat.pow_add, show r + (64 - r) = 64 by omega]
  rw [wdn_down N r i hr, Nat.or_comm]
  conv => lhs; rw [hp, Nat.mul_mod_mul_right]
  rw [or_parts]
  · rw [← Nat.mul_mod_mul_right, ← hp, Nat.add_comm]
  · rw [Nat.div_lt_iff_lt_mul (Nat.two_pow_pos _), Nat.mul_comm, ← hp]; exact wdn_lt N i
/-- From the highest word down: one word more. -/
theorem setw_down (M i : Nat) : setw (M / 2 ^ (64 * (i + 1)) * 2 ^ (64 * (i + 1))) i (wdn M i) = M / 2 ^ (64 * i) * 2 ^ (64 * i) := by
  rw [setw_quo]
  congr 1
  rw [div_step M i]; omega

/-! ### What is left over -/
theorem rest_bit (N m : Nat) : (N % 2 ^ (64 * (m + 1)) ≠ 0) ↔ (N % 2 ^ (64 * m) ≠ 0 ∨ wdn N m ≠ 0) := by
  rw [cut_succ]
  have := Nat.two_pow_pos (64 * m)
  constructor
  · intro h
    by_cases h1 : N % 2 ^ (64 * m) = 0
    · right; intro h2; apply h; rw [h1, h2]; rfl
    · exact .inl h1
  · rintro (h | h) h0
    · omega
    · have h3 : 2 ^ (64 * m) * wdn N m = 0 := by omega
      rcases Nat.mul_eq_zero.1 h3 with h4 | h4
      · omega
      · exact h h4
theorem rest_part (N d r : Nat) (hr : r ≤ 64) : (N % 2 ^ (64 * d + r) ≠ 0) ↔ (N % 2 ^ (64 * d) ≠ 0 ∨ wdn N d * 2 ^ (64 - r) % 18446744073709551616 ≠ 0) := by
  have hp : (18446744073709551616 : Nat) = 2 ^ r * 2 ^ (64 - r) := by rw [← Nat.pow_add, show r + (64 - r) = 64 by omega]
  have e1 : wdn N d * 2 ^ (64 - r) % 18446744073709551616 = (N / 2 ^ (64 * d) % 2 ^ r) * 2 ^ (64 - r) := by
    rw [hp, Nat.mul_mod_mul_right]
    congr 1
    show N / 2 ^ (64 * d) % 18446744073709551616 % 2 ^ r = _
    rw [hp, Nat.mod_mul_right_mod]
  rw [e1, Nat.pow_add, Nat.mod_mul]
  have := Nat.two_pow_pos (64 * d)
  have := Nat.two_pow_pos (64 - r)
  generalize N / 2 ^ (64 * d) % 2 ^ r = x
  constructor
  · intro h
    by_cases h1 : N % 2 ^ (64 * d) = 0
    · right; intro h2; apply h
      rcases Nat.mul_eq_zero.1 h2 with h4 | h4
      · rw [h1, h4]; rfl
      · omega
    · exact .inl h1
  · rintro (h | h) h0
    · omega
    · apply h
      have h3 : 2 ^ (64 * d) * x = 0 := by omega
      rcases Nat.mul_eq_zero.1 h3 with h4 | h4
      · omega
      · rw [h4, Nat.zero_mul]

/-! ### Roots -/
/-- The root, down. -/
def rt : Nat → Nat
  | 0 => 0
  | n + 1 => if (rt n + 1) * (rt n + 1) ≤ n + 1 then rt n + 1 else rt n
theorem rt_spec (n : Nat) : rt n * rt n ≤ n ∧ n < (rt n + 1) * (rt n + 1) := by
  induction n with
  | zero => simp [rt]
  | succ n ih =>
    unfold rt
    split
    · rename_i h
      refine ⟨h, ?_⟩
      have : (rt n + 1 + 1) * (rt n + 1 + 1) = (rt n + 1) * (rt n + 1) + 2 * rt n + 3 := by grind
      omega
    · exact ⟨by omega, by omega⟩
theorem sq_mono {a b : Nat} (h : a ≤ b) : a * a ≤ b * b := Nat.mul_le_mul h h
theorem rt_unique {n r : Nat} (h1 : r * r ≤ n) (h2 : n < (r + 1) * (r + 1)) : rt n = r := by
  have := rt_spec n
  rcases Nat.lt_trichotomy (rt n) r with h | h | h
  · have := sq_mono (show rt n + 1 ≤ r from h); omega
  · exact h
  · have := sq_mono (show r + 1 ≤ rt n from h); omega
theorem newton_stop {N x : Nat} (hx : 0 < x) (hi : N < (x + 1) * (x + 1)) (h : x ≤ (x + N / x) / 2) : rt N = x := by
  refine rt_unique ?_ hi
  exact (Nat.le_div_iff_mul_le hx).1 (by omega)
theorem newton_step {N x : Nat} (hx : 0 < x) : N < ((x + N / x) / 2 + 1) * ((x + N / x) / 2 + 1) := by
  have h1 : N < (N / x + 1) * x := by
    have := Nat.div_add_mod N x
    have := Nat.mod_lt N hx
    rw [Nat.add_mul, Nat.mul_comm (N / x), Nat.one_mul]; omega
  generalize hq : N / x = q at *
  have h2 : x + q + 1 ≤ 2 * ((x + q) / 2 + 1) := by omega
  generalize (x + q) / 2 + 1 = y at *
  have h3 := sq_mono h2
  have h4 : (2 * y) * (2 * y) = 4 * (y * y) := by grind
  have h5 : 4 * ((q + 1) * x) ≤ (x + q + 1) * (x + q + 1) := by
    rcases Nat.le_total x (q + 1) with h | h
    · obtain ⟨d, hd⟩ := Nat.exists_eq_add_of_le h
      have : x + q + 1 = x + (x + d) := by omega
      rw [this, hd]; grind
    · obtain ⟨d, hd⟩ := Nat.exists_eq_add_of_le h
      have : x + q + 1 = (q + 1 + d) + (q + 1) := by omega
      rw [this, hd]; grind
  omega
theorem newton_first (N k : Nat) (h : bl N ≤ 2 * k) : N < (2 ^ k + 1) * (2 ^ k + 1) := by
  have h1 := (bl_le_iff N (2 * k)).1 h
  rw [Nat.two_mul, Nat.pow_add] at h1
  exact Nat.lt_of_lt_of_le h1 (sq_mono (Nat.le_succ _))
end Go.Proofs.Ytfohihjeemmedaa
