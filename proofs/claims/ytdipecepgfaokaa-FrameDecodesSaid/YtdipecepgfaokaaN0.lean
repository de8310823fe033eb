/- Plain laws of frames' bytes: the sum of bytes tells every change within four adjacent bytes; numbers as bytes and back. -/
namespace Go.Proofs.Ytdipecepgfaokaa
set_option linter.unusedSimpArgs false
set_option linter.unusedVariables false

/-- one bit of the sum. -/
def bitS (n : Nat) : Nat := if n % 2 = 1 then (n / 2) ^^^ 3988292384 else n / 2
def bitN : Nat → Nat → Nat
  | 0, n => n
  | k + 1, n => bitS (bitN k n)
def ent (i : Nat) : Nat := bitN 8 i
def stp (s c : Nat) : Nat := ent (s % 256 ^^^ c) ^^^ (s / 256)
def crcF (s : Nat) (l : List Nat) : Nat := l.foldl stp s
def crc (l : List Nat) : Nat := 4294967295 - crcF 4294967295 l
def Byt (l : List Nat) : Prop := ∀ c ∈ l, c < 256
theorem xr_right {a b c : Nat} (h : a ^^^ c = b ^^^ c) : a = b := by
  have := congrArg (· ^^^ c) h
  simpa [Nat.xor_assoc] using this
theorem xr_left {a b c : Nat} (h : c ^^^ a = c ^^^ b) : a = b := xr_right (c := c) (by rw [Nat.xor_comm a, Nat.xor_comm b]; exact h)
theorem bitS_lt {n : Nat} (h : n < 4294967296) : bitS n < 4294967296 := by
  unfold bitS
  split
  · exact Nat.xor_lt_two_pow (n := 32) (by omega) (by omega)
  · omega
theorem bitN_lt (k : Nat) {n : Nat} (h : n < 4294967296) : bitN k n < 4294967296 := by
  induction k with
  | zero => exact h
  | succ k ih => exact bitS_lt ih
theorem top_odd {n : Nat} (h : n < 4294967296) : ((n / 2) ^^^ 3988292384).testBit 31 = true := by
  rw [Nat.testBit_xor, Nat.testBit_lt_two_pow (show n / 2 < 2 ^ 31 by omega)]; decide +kernel
theorem bitS_inj {n m : Nat} (hn : n < 4294967296) (hm : m < 4294967296) (h : bitS n = bitS m) : n = m := by
  unfold bitS at h
  have tn := top_odd hn
  have tm := top_odd hm
  have un : (n / 2).testBit 31 = false := Nat.testBit_lt_two_pow (show n / 2 < 2 ^ 31 by omega)
  have um : (m / 2).testBit 31 = false := Nat.testBit_lt_two_pow (show m / 2 < 2 ^ 31 by omega)
  split at h <;> split at h
  · have := xr_right h
    omega
  · rw [h, um] at tn; cases tn
  · rw [← h, un] at tm; cases tm
  · omega
theorem bitN_inj (k : Nat) {n m : Nat} (hn : n < 4294967296) (hm : m < 4294967296) (h : bitN k n = bitN k m) : n = m := by
  induction k with
  | zero => exact h
  | succ k ih => exact ih (bitS_inj (bitN_lt k hn) (bitN_lt k hm) h)
theorem bitS_xor (x y : Nat) : bitS (x ^^^ 2 * y) = bitS x ^^^ y := by
  have h1 : (x ^^^ 2 * y) % 2 = x % 2 := by
    have := @Nat.xor_mod_two_pow x (2 * y) 1
    simp at this; simpa using this
  have h2 : (x ^^^ 2 * y) / 2 = x / 2 ^^^ y := by
    have := @Nat.xor_div_two_pow x (2 * y) 1
    simp at this; simpa using this
  unfold bitS
  rw [h1, h2]
  split
  · rw [Nat.xor_assoc, Nat.xor_assoc, Nat.xor_comm y]
  · rfl
theorem bitN_xor (k : Nat) : ∀ x y : Nat, bitN k (x ^^^ 2 ^ k * y) = bitN k x ^^^ y := by
  induction k with
  | zero => intro x y; simp [bitN]
  | succ k ih =>
    intro x y
    show bitS (bitN k _) = bitS (bitN k x) ^^^ y
    rw [show 2 ^ (k + 1) * y = 2 ^ k * (2 * y) by rw [Nat.pow_succ, Nat.mul_assoc], ih, bitS_xor]
theorem bitN_add (j k n : Nat) : bitN (j + k) n = bitN j (bitN k n) := by
  induction j with
  | zero => simp [bitN]
  | succ j ih => rw [Nat.succ_add]; show bitS _ = bitS _; rw [ih]
theorem split8 (s : Nat) : s % 256 ^^^ 256 * (s / 256) = s := by
  have := Nat.two_pow_add_eq_or_of_lt (i := 8) (b := s % 256) (Nat.mod_lt _ (by decide)) (s / 256)
  have h2 : s % 256 ^^^ 256 * (s / 256) = (256 * (s / 256)) ||| s % 256 := by
    apply Nat.eq_of_testBit_eq
    intro i
    rw [Nat.testBit_xor, Nat.testBit_or]
    by_cases h : i < 8
    · rw [show 256 = 2 ^ 8 from rfl, Nat.testBit_two_pow_mul]
      simp [show ¬ 8 ≤ i by omega]
    · rw [show s % 256 = s % 2 ^ 8 from rfl, Nat.testBit_mod_two_pow]
      simp [h]
  rw [h2]
  have e : 256 * (s / 256) ||| s % 256 = 2 ^ 8 * (s / 256) + s % 256 := this.symm
  rw [e]; omega
theorem stp_eq {s c : Nat} : stp s c = bitN 8 (s ^^^ c) := by
  unfold stp ent
  rw [← bitN_xor 8]
  congr 1
  rw [Nat.xor_assoc, Nat.xor_comm c, ← Nat.xor_assoc, split8]
theorem stp_lt {s c : Nat} (hs : s < 4294967296) (hc : c < 256) : stp s c < 4294967296 := by
  rw [stp_eq]; exact bitN_lt 8 (Nat.xor_lt_two_pow (n := 32) hs (by omega))
theorem crcF_lt {l : List Nat} (hl : Byt l) : ∀ {s : Nat}, s < 4294967296 → crcF s l < 4294967296 := by
  induction l with
  | nil => intro s h; exact h
  | cons c l ih => intro s h; exact ih (fun d hd => hl d (List.mem_cons_of_mem _ hd)) (stp_lt h (hl c List.mem_cons_self))
theorem crc_lt (l : List Nat) : crc l < 4294967296 := by unfold crc; omega
theorem stp_injL {s t c : Nat} (hs : s < 4294967296) (ht : t < 4294967296) (hc : c < 256) (h : stp s c = stp t c) : s = t := by
  rw [stp_eq, stp_eq] at h
  have := bitN_inj 8 (Nat.xor_lt_two_pow (n := 32) hs (by omega)) (Nat.xor_lt_two_pow (n := 32) ht (by omega)) h
  exact xr_right this
theorem crcF_inj {l : List Nat} (hl : Byt l) : ∀ {s t : Nat}, s < 4294967296 → t < 4294967296 → crcF s l = crcF t l → s = t := by
  induction l with
  | nil => intro s t _ _ h; exact h
  | cons c l ih =>
    intro s t hs ht h
    have hc := hl c List.mem_cons_self
    exact stp_injL hs ht hc (ih (fun d hd => hl d (List.mem_cons_of_mem _ hd)) (stp_lt hs hc) (stp_lt ht hc) h)
/-- The bytes of a burst as one number. -/
def brs : List Nat → Nat
  | [] => 0
  | c :: l => c ^^^ 256 * brs l
theorem crcF_brs : ∀ (l : List Nat) (s : Nat), crcF s l = bitN (8 * l.length) (s ^^^ brs l) := by
  intro l
  induction l with
  | nil => intro s; simp [crcF, brs, bitN]
  | cons c l ih =>
    intro s
    show crcF (stp s c) l = _
    rw [ih, List.length_cons, show 8 * (l.length + 1) = 8 * l.length + 8 by omega, bitN_add, stp_eq]
    congr 1
    rw [← bitN_xor 8, Nat.xor_assoc]; rfl
theorem brs_lt : ∀ (l : List Nat), Byt l → brs l < 256 ^ l.length := by
  intro l
  induction l with
  | nil => intro _; simp [brs]
  | cons c l ih =>
    intro h
    have h1 := ih (fun d hd => h d (List.mem_cons_of_mem _ hd))
    have hc := h c List.mem_cons_self
    have e : 256 ^ (c :: l).length = 2 ^ (8 * (l.length + 1)) := by rw [show 256 = 2 ^ 8 from rfl, ← Nat.pow_mul]; rfl
    rw [e]
    refine Nat.xor_lt_two_pow (Nat.lt_of_lt_of_le (show c < 2 ^ 8 from hc) (Nat.pow_le_pow_right (by decide) (by omega))) ?_
    rw [show 8 * (l.length + 1) = 8 + 8 * l.length by omega, Nat.pow_add, Nat.pow_mul]
    exact Nat.mul_lt_mul_of_pos_left h1 (by decide)
theorem brs_inj : ∀ (l m : List Nat), Byt l → Byt m → l.length = m.length → brs l = brs m → l = m := by
  intro l
  induction l with
  | nil => intro m _ _ h _; cases m with | nil => rfl | cons _ _ => simp at h
  | cons c l ih =>
    intro m hl hm hlen h
    cases m with
    | nil => simp at hlen
    | cons d m =>
      have hc := hl c List.mem_cons_self
      have hd := hm d List.mem_cons_self
      have k : ∀ (c y : Nat), c < 256 → (c ^^^ 256 * y) % 256 = c ∧ (c ^^^ 256 * y) / 256 = y := by
        intro c y hc
        have h1 := @Nat.xor_mod_two_pow c (256 * y) 8
        have h2 := @Nat.xor_div_two_pow c (256 * y) 8
        constructor
        · rw [show 2 ^ 8 = 256 from rfl] at h1
          rw [h1, Nat.mul_mod_right, Nat.xor_zero, Nat.mod_eq_of_lt hc]
        · rw [show 2 ^ 8 = 256 from rfl] at h2
          rw [h2, Nat.mul_div_right _ (by decide), Nat.div_eq_of_lt hc, Nat.zero_xor]
      have h : c ^^^ 256 * brs l = d ^^^ 256 * brs m := h
      have e1 := (k c (brs l) hc).1
      have e2 := (k c (brs l) hc).2
      rw [h] at e1 e2
      rw [(k d _ hd).1] at e1
      rw [(k d _ hd).2] at e2
      rw [e1, ih m (fun x hx => hl x (List.mem_cons_of_mem _ hx)) (fun x hx => hm x (List.mem_cons_of_mem _ hx)) (by simpa using hlen) e2.symm]
/-- A change within four adjacent bytes changes the sum. -/
theorem crc_burst {p c d q : List Nat} (hp : Byt p) (hc : Byt c) (hd : Byt d) (hq : Byt q) (hlen : c.length = d.length) (h4 : c.length ≤ 4) (h : crc (p ++ c ++ q) = crc (p ++ d ++ q)) : c = d := by
  have lt : ∀ x : List Nat, Byt x → crcF 4294967295 x < 4294967296 := fun x hx => crcF_lt hx (by decide)
  have app : ∀ {x y : List Nat}, Byt x → Byt y → Byt (x ++ y) := fun hx hy a ha => (List.mem_append.1 ha).elim (hx a) (hy a)
  have h1 := lt _ (app (app hp hc) hq)
  have h2 := lt _ (app (app hp hd) hq)
  have h3 : crcF 4294967295 (p ++ c ++ q) = crcF 4294967295 (p ++ d ++ q) := by unfold crc at h; omega
  have cat : ∀ (s : Nat) (x y : List Nat), crcF s (x ++ y) = crcF (crcF s x) y := fun s x y => List.foldl_append ..
  rw [cat, cat, cat _ (p ++ d), cat _ p] at h3
  have hs := lt p hp
  have h5 := crcF_inj hq (crcF_lt hc hs) (crcF_lt hd hs) h3
  rw [crcF_brs c, crcF_brs d, ← hlen] at h5
  have b4 : ∀ x : List Nat, Byt x → x.length ≤ 4 → brs x < 4294967296 := fun x hx hl => Nat.lt_of_lt_of_le (brs_lt x hx) (by
    have : 256 ^ x.length ≤ 256 ^ 4 := Nat.pow_le_pow_right (by decide) hl
    simpa using this)
  have h6 := bitN_inj _ (Nat.xor_lt_two_pow (n := 32) hs (b4 c hc h4)) (Nat.xor_lt_two_pow (n := 32) hs (b4 d hd (by omega))) h5
  exact brs_inj c d hc hd hlen (xr_left h6)
/-- n's last w bytes, the greatest first. -/
def be : Nat → Int → List Nat
  | 0, _ => []
  | w + 1, n => ((n / ((256 ^ w : Nat) : Int)) % 256).toNat :: be w n
def nb (l : List Nat) : Nat := l.foldl (fun n c => n * 256 + c) 0
theorem be_length (w : Nat) (n : Int) : (be w n).length = w := by
  induction w with
  | zero => rfl
  | succ w ih => simp [be, ih]
theorem be_byt (w : Nat) (n : Int) : Byt (be w n) := by
  induction w with
  | zero => intro c h; cases h
  | succ w ih =>
    intro c h
    rcases List.mem_cons.1 h with rfl | h
    · omega
    · exact ih c h
theorem nb_from (l : List Nat) : ∀ k : Nat, l.foldl (fun n c => n * 256 + c) k = k * 256 ^ l.length + nb l := by
  induction l with
  | nil => intro k; simp [nb]
  | cons c l ih =>
    intro k
    rw [nb, List.foldl_cons, List.foldl_cons, ih, ih, List.length_cons, Nat.pow_succ, Nat.zero_mul, Nat.zero_add, Nat.add_mul, Nat.mul_assoc, Nat.mul_comm 256, Nat.add_assoc]
theorem nb_cons (c : Nat) (l : List Nat) : nb (c :: l) = c * 256 ^ l.length + nb l := by
  rw [nb, List.foldl_cons, nb_from]; simp
theorem emod_split (n P : Int) (hp : 0 < P) : n / P % 256 * P + n % P = n % (P * 256) := by
  have h1 := Int.emod_nonneg n (show P ≠ 0 by omega)
  have h2 := Int.emod_lt_of_pos n hp
  have h3 := Int.emod_nonneg (n / P) (show (256 : Int) ≠ 0 by decide)
  have h4 := Int.emod_lt_of_pos (n / P) (show (0 : Int) < 256 by decide)
  have h5 := Int.emod_add_mul_ediv n P
  have h6 := Int.emod_add_mul_ediv (n / P) 256
  have e : n = (n / P % 256 * P + n % P) + (P * 256) * (n / P / 256) := by
    generalize n / P / 256 = q at *
    generalize n / P % 256 = r at *
    generalize n % P = s at *
    rw [← h6] at h5
    grind
  conv => rhs; rw [e, Int.add_mul_emod_self_left]
  symm
  refine Int.emod_eq_of_lt (Int.add_nonneg (Int.mul_nonneg h3 (by omega)) h1) ?_
  have : (n / P % 256) * P ≤ 255 * P := Int.mul_le_mul_of_nonneg_right (by omega) (by omega)
  omega
theorem nb_be (w : Nat) (n : Int) : ((nb (be w n) : Nat) : Int) = n % ((256 ^ w : Nat) : Int) := by
  induction w with
  | zero => simp [be, nb, Int.emod_one]
  | succ w ih =>
    rw [be, nb_cons, be_length, Int.natCast_add, ih, Int.natCast_mul]
    have hp0 : 0 < 256 ^ w := Nat.pow_pos (by decide)
    obtain ⟨P, hP⟩ : ∃ P : Int, ((256 ^ w : Nat) : Int) = P := ⟨_, rfl⟩
    have hp : 0 < P := by omega
    rw [Nat.pow_succ, Int.natCast_mul, hP]
    have h1 : ((n / P % 256).toNat : Int) = n / P % 256 := by omega
    rw [h1]
    exact emod_split n P hp
end Go.Proofs.Ytdipecepgfaokaa
