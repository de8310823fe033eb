/- Texts as numbers: what both Parse compute. No program in sight. Rules for strings, one by one; package wide's digit. The walk of package wide's Parse. The walk of the document's Parse. The walk of WideMakes. -/
import Derived.Test.YtkepdjmgmjhejaaHX
import Derived.Test.YtkepdjmgmjhejaaBA
import Derived.Test.YtkepdjmgmjhejaaBX
import Derived.Test.YtkepdjmgmjhejaaBY
import Derived.Test.YtkepdjmgmjhejaaRE
import Derived.Test.YtkepdjmgmjhejaaRF
namespace Go.Proofs.Ytkepdjmgmjhejaa

/-- The digit of a byte. -/
def hxv (c : UInt8) : Option Nat := if 48 ≤ c.toNat ∧ c.toNat ≤ 57 then some (c.toNat - 48) else if 97 ≤ c.toNat ∧ c.toNat ≤ 102 then some (c.toNat - 87) else none
/-- Its value, 0 where it is none. -/
def dv (c : UInt8) : Nat := (hxv c).getD 0
def okD (c : UInt8) : Bool := (hxv c).isSome
theorem dv_lt (c : UInt8) : dv c < 16 := by
  unfold dv hxv
  split
  · simp; omega
  · split
    · simp; omega
    · simp
theorem hxd_dv {c : UInt8} (h : okD c = true) : hxd (dv c) = c := by
  unfold okD dv hxv at *
  split
  · rw [Option.getD_some]; unfold hxd
    rw [if_pos (by omega), show 48 + (c.toNat - 48) = c.toNat by omega]; simp
  · split
    · rw [Option.getD_some]; unfold hxd
      rw [if_neg (by omega), show 87 + (c.toNat - 87) = c.toNat by omega]; simp
    · rename_i h1 h2; rw [if_neg h1, if_neg h2] at h; simp at h
theorem okD_low {c : UInt8} (h : 48 ≤ c.toNat ∧ c.toNat ≤ 57) : okD c = true ∧ dv c = c.toNat - 48 := by
  unfold okD dv hxv; rw [if_pos h]; exact ⟨rfl, rfl⟩
theorem okD_high {c : UInt8} (h : 97 ≤ c.toNat ∧ c.toNat ≤ 102) : okD c = true ∧ dv c = c.toNat - 87 := by
  unfold okD dv hxv; rw [if_neg (by omega), if_pos h]; exact ⟨rfl, rfl⟩
theorem okD_none {c : UInt8} (h : ¬ (48 ≤ c.toNat ∧ c.toNat ≤ 57)) (h' : ¬ (97 ≤ c.toNat ∧ c.toNat ≤ 102)) : okD c = false ∧ dv c = 0 := by
  unfold okD dv hxv; rw [if_neg h, if_neg h']; exact ⟨rfl, rfl⟩
/-- The value of a text of digits. -/
def vl (t : List UInt8) : Nat := t.foldl (fun n c => 16 * n + dv c) 0
theorem vl_snoc (t : List UInt8) (c : UInt8) : vl (t ++ [c]) = 16 * vl t + dv c := by unfold vl; rw [List.foldl_append]; rfl
theorem fold_from (t : List UInt8) : ∀ n, t.foldl (fun n c => 16 * n + dv c) n = n * 16 ^ t.length + vl t := by
  induction t with
  | nil => intro n; simp [vl]
  | cons c t ih =>
    intro n
    unfold vl
    rw [List.foldl_cons, List.foldl_cons, ih, ih, List.length_cons, Nat.pow_succ]
    grind
theorem vl_cons (c : UInt8) (t : List UInt8) : vl (c :: t) = dv c * 16 ^ t.length + vl t := by
  unfold vl; rw [List.foldl_cons, fold_from]; simp; rfl
theorem vl_lt (t : List UInt8) : vl t < 16 ^ t.length := by
  induction t with
  | nil => simp [vl]
  | cons c t ih =>
    rw [vl_cons, List.length_cons, Nat.pow_succ]
    have := dv_lt c
    have h : dv c * 16 ^ t.length ≤ 15 * 16 ^ t.length := Nat.mul_le_mul_right _ (by omega)
    omega
theorem vl_take (t : List UInt8) (i : Nat) (h : i < t.length) : vl (t.take (i + 1)) = 16 * vl (t.take i) + dv t[i] := by
  rw [List.take_succ_eq_append_getElem h, vl_snoc]
theorem vl_drop (t : List UInt8) (i : Nat) (h : i < t.length) : vl (t.drop i) = dv t[i] * 16 ^ (t.length - (i + 1)) + vl (t.drop (i + 1)) := by
  rw [List.drop_eq_getElem_cons h, vl_cons, List.length_drop]
theorem hx_vl : ∀ (n : Nat) (t : List UInt8), t.length = n → t ≠ [] → t.head? ≠ some 48 → t.all okD = true → hx (vl t) = t := by
  intro n
  induction n with
  | zero => intro t h h0; exact absurd (List.length_eq_zero_iff.1 h) h0
  | succ n ih =>
    intro t hl h0 h1 h2
    obtain ⟨s, c, rfl⟩ : ∃ s c, t = s ++ [c] := ⟨t.dropLast, t.getLast h0, (List.dropLast_concat_getLast h0).symm⟩
    rw [List.all_append, Bool.and_eq_true] at h2
    have hc : okD c = true := by simpa using h2.2
    have hd := hxd_dv hc
    have hlt := dv_lt c
    by_cases hs : s = []
    · subst hs
      have hv : vl ([] ++ [c]) = dv c := by rw [vl_snoc]; simp [vl]
      have hne : dv c ≠ 0 := by
        intro h
        rw [h] at hd
        apply h1
        rw [← hd]; rfl
      rw [hv, hx_pos hne, Nat.div_eq_of_lt hlt, hx_zero, Nat.mod_eq_of_lt hlt, hd]
    · have hh : s.head? ≠ some 48 := by
        obtain ⟨a, s', rfl⟩ := List.exists_cons_of_ne_nil hs
        simpa using h1
      have e := ih s (by simpa using hl) hs hh h2.1
      have hp : vl s ≠ 0 := by
        intro h
        rw [h, hx_zero] at e
        exact hs e.symm
      rw [vl_snoc, hx_pos (by omega), show (16 * vl s + dv c) / 16 = vl s by omega, show (16 * vl s + dv c) % 16 = dv c by omega, e, hd]

/-- The text's sign and its digits. -/
def prN (L : List UInt8) : Bool := decide (L.head? = some 45)
def prT (L : List UInt8) : List UInt8 := if L.head? = some 45 then L.tail else L
/-- Written as a number is written. -/
def canon (L : List UInt8) : Bool := decide (prT L ≠ []) && !(decide ((prT L).head? = some 48) && decide (L ≠ [48]))
def prX (L : List UInt8) : WI := WI.of (sgn (prN L) (vl (prT L)))
def prO (L : List UInt8) : Bool := decide (L.length ≤ 300) && (prT L).all okD && canon L && !(prX L).ov
/-- What both Parse answer. -/
def prs (L : List UInt8) : WI := if prO L then prX L else WI.of 0

theorem prX_ov (L : List UInt8) (h : (prX L).ov = false) : (prX L).v = some (sgn (prN L) (vl (prT L))) ∧ vl (prT L) < lim := by
  unfold prX at *
  by_cases hl : (sgn (prN L) (vl (prT L))).natAbs < lim
  · refine ⟨WI.of_v hl, ?_⟩
    unfold sgn at hl; split at hl <;> omega
  · rw [WI.of_over hl] at h; cases h
theorem head_len {t : List UInt8} (ht : t ≠ []) (hh : t.head? ≠ some 48) (hg : t.all okD = true) (k : Nat) (h : vl t < 16 ^ k) : t.length ≤ k := by
  have := hx_len k (vl t) h
  rwa [hx_vl _ t rfl ht hh hg] at this
theorem p16 (k : Nat) : (16 : Nat) ^ k = 2 ^ (4 * k) := by rw [Nat.pow_mul]
theorem lt_p16 (N k : Nat) (h : bl N ≤ 4 * k) : N < 16 ^ k := by rw [p16]; exact Nat.lt_of_lt_of_le (bl_lt _) (Nat.pow_le_pow_right (by decide) h)
/-- Too long a text is no number. -/
theorem long_over (L : List UInt8) (hl : 256 < (prT L).length) : prO L = false := by
  cases h : prO L with
  | false => rfl
  | true =>
    exfalso
    unfold prO at h
    simp only [Bool.and_eq_true, Bool.not_eq_true'] at h
    obtain ⟨⟨⟨-, hg⟩, hc⟩, ho⟩ := h
    obtain ⟨-, hv⟩ := prX_ov L ho
    unfold canon at hc
    simp only [Bool.and_eq_true, decide_eq_true_eq, Bool.not_eq_true', Bool.and_eq_false_iff, decide_eq_false_iff_not] at hc
    obtain ⟨ht, hc⟩ := hc
    have hh : (prT L).head? ≠ some 48 := by
      rcases hc with h | h
      · exact h
      · have : L = [48] := Classical.not_not.1 h
        subst this
        exfalso; revert hl; decide
    have := head_len ht hh hg 256 (lt_p16 _ _ (by have := (lim_bl _).2 hv; omega))
    omega
/-- The text of what is read is the text, where it is written as a number is. -/
theorem text_canon (L : List UInt8) (hg : (prT L).all okD = true) (ho : (prX L).ov = false) : (txt (prX L).v = L ↔ canon L = true) := by
  obtain ⟨hv, -⟩ := prX_ov L ho
  rw [hv]
  unfold canon
  simp only [Bool.and_eq_true, decide_eq_true_eq, Bool.not_eq_true', Bool.and_eq_false_iff, decide_eq_false_iff_not]
  generalize hN : vl (prT L) = N
  by_cases h45 : L.head? = some 45
  · obtain ⟨t, rfl⟩ : ∃ t, L = 45 :: t := by
      cases L with
      | nil => cases h45
      | cons a t => exact ⟨t, by simpa using h45⟩
    have ht : prT (45 :: t) = t := rfl
    have hn : prN (45 :: t) = true := rfl
    rw [ht] at hg hN
    rw [ht, hn]
    have hne : (45 :: t : List UInt8) ≠ [48] := by simp
    by_cases h0 : N = 0
    · subst h0
      have e : txt (some (sgn true 0)) = [48] := by simp [txt, sgn, hex]
      rw [e]
      constructor
      · intro h; exact absurd h.symm hne
      · rintro ⟨h1, h2 | h2⟩
        · have := hx_vl _ t rfl h1 h2 hg
          rw [hN, hx_zero] at this
          exact absurd this.symm h1
        · exact absurd hne h2
    · have e : txt (some (sgn true N)) = 45 :: hx N := by
        have h1 : sgn true N < 0 := by unfold sgn; simp; omega
        have h2 : (sgn true N).natAbs = N := by unfold sgn; simp
        unfold txt; simp only; rw [if_pos h1, h2]; unfold hex; rw [if_neg h0]
      rw [e]
      constructor
      · intro h
        have h := List.tail_eq_of_cons_eq h
        obtain ⟨a, s, h1, h2, h3⟩ := hx_head N h0
        rw [h1] at h
        subst h
        refine ⟨by simp, .inl ?_⟩
        simp only [List.head?_cons, Option.some.injEq]
        exact fun h => h3 ((hxd_zero a h2).1 h)
      · rintro ⟨h1, h2 | h2⟩
        · rw [← hN, hx_vl _ t rfl h1 h2 hg]
        · exact absurd hne h2
  · have ht : prT L = L := by unfold prT; rw [if_neg h45]
    have hn : prN L = false := by unfold prN; exact decide_eq_false h45
    rw [ht] at hg hN
    rw [ht, hn]
    have e : txt (some (sgn false N)) = hex N := by
      have h1 : ¬ sgn false N < 0 := by unfold sgn; simp
      have h2 : (sgn false N).natAbs = N := by unfold sgn; simp
      unfold txt; simp only; rw [if_neg h1, h2]
    rw [e]
    unfold hex
    by_cases h0 : N = 0
    · rw [if_pos h0]
      subst h0
      constructor
      · rintro rfl; exact ⟨by simp, .inr (by simp)⟩
      · rintro ⟨h1, h2 | h2⟩
        · have := hx_vl _ L rfl h1 h2 hg
          rw [hN, hx_zero] at this
          exact absurd this.symm h1
        · exact (Classical.not_not.1 h2).symm
    · rw [if_neg h0]
      constructor
      · intro h
        obtain ⟨a, s, h1, h2, h3⟩ := hx_head N h0
        rw [h1] at h
        subst h
        refine ⟨by simp, .inl ?_⟩
        simp only [List.head?_cons, Option.some.injEq]
        exact fun h => h3 ((hxd_zero a h2).1 h)
      · rintro ⟨h1, h2 | h2⟩
        · rw [← hN, hx_vl _ L rfl h1 h2 hg]
        · have h3 : L = [48] := Classical.not_not.1 h2
          subst h3
          exfalso; apply h0; rw [← hN]; decide
theorem prs_no {L : List UInt8} (h : prO L = false) : prs L = WI.of 0 ∧ prO L = false := by unfold prs; rw [h]; exact ⟨rfl, rfl⟩
theorem fail_far {L : List UInt8} (h : ¬ L.length ≤ 300) : prs L = WI.of 0 ∧ prO L = false := prs_no (by unfold prO; simp [h])
theorem fail_nil {L : List UInt8} (h : prT L = []) : prs L = WI.of 0 ∧ prO L = false := prs_no (by unfold prO canon; simp [h])
theorem fail_zero {L : List UInt8} (h : (prT L).head? = some 48) (h' : (L == [48]) = false) : prs L = WI.of 0 ∧ prO L = false :=
  prs_no (by have : L ≠ [48] := by simpa using h'
             unfold prO canon; simp [h, this])
theorem fail_long {L : List UInt8} (h : 256 < (prT L).length) : prs L = WI.of 0 ∧ prO L = false := prs_no (long_over L h)
theorem fail_dig {L : List UInt8} {i : Nat} (hi : i < (prT L).length) (h : okD (prT L)[i] = false) : prs L = WI.of 0 ∧ prO L = false :=
  prs_no (by
    have : (prT L).all okD = false := by
      rw [List.all_eq_false]
      exact ⟨_, List.getElem_mem hi, by rw [h]; decide⟩
    unfold prO; simp [this])
theorem fail_ov {L : List UInt8} (h : (prX L).ov = true) : prs L = WI.of 0 ∧ prO L = false := prs_no (by unfold prO; simp [h])
theorem fail_text {L : List UInt8} (hg : (prT L).all okD = true) (ho : (prX L).ov = false) (h : txt (prX L).v ≠ L) : prs L = WI.of 0 ∧ prO L = false :=
  prs_no (by
    have : canon L = false := by
      cases hc : canon L with
      | false => rfl
      | true => exact absurd ((text_canon L hg ho).2 hc) h
    unfold prO; simp [this])
theorem good_text {L : List UInt8} (hl : L.length ≤ 300) (hg : (prT L).all okD = true) (ho : (prX L).ov = false) (h : txt (prX L).v = L) : prs L = prX L ∧ prO L = true := by
  have e : prO L = true := by unfold prO; simp only [hl, hg, ho, (text_canon L hg ho).1 h]; rfl
  unfold prs; rw [e]; exact ⟨rfl, rfl⟩
theorem good_all {L : List UInt8} (hl : L.length ≤ 300) (hn : prT L ≠ []) (hz : (prT L).head? ≠ some 48 ∨ (L == [48]) = true) (hg : (prT L).all okD = true) (ho : (prX L).ov = false) : prs L = prX L ∧ prO L = true := by
  have hc : canon L = true := by
    unfold canon
    rcases hz with h | h
    · simp [hn, h]
    · have : L = [48] := by simpa using h
      subst this; rfl
  have e : prO L = true := by unfold prO; simp only [hl, hg, ho, hc]; rfl
  unfold prs; rw [e]; exact ⟨rfl, rfl⟩
end Go.Proofs.Ytkepdjmgmjhejaa
namespace Go.Proofs.Ytkepdjmgmjhejaa
open Go.RowKit

@[go_sem] theorem len_strL (L : List UInt8) (ty : TypeId) (w : World) : (Builtin.len_ #[9] ty #[str L]).run Try.prog w = .ok (.int .i64 (L.length : Int)) w := by
  unfold str
  rw [run_len_string (h := Try.underlying9)]
  simp [goInt, ByteArray.size]
theorem idx_str (L : List UInt8) (i : Nat) (z : Int) (hz : z = (i : Int)) (hi : i < L.length) (w : World) :
    (Instr.index 9 (str L) (.int .i64 z)).run Try.prog w = .ok (.int .u8 ((L[i]).toNat : Int)) w := by
  subst hz
  unfold str
  rw [run_index_string (h := Try.underlying9)]
  have hs : i < (ByteArray.mk L.toArray).size := by simpa [ByteArray.size] using hi
  rw [dif_pos ⟨by omega, by omega⟩]
  rfl
@[go_sem] theorem slice_tail (c : UInt8) (t : List UInt8) (w : World) :
    (Instr.slice 9 (str (c :: t)) (some (.int .i64 1)) none none).run Try.prog w = .ok (str t) w := by
  unfold str
  rw [run_slice_string_l (ht := Try.underlying9) (h0 := by decide) (h1 := by simp [ByteArray.size]; omega)]
  congr 2
  apply ByteArray.ext
  simp [ByteArray.size]
@[go_sem] theorem eql_nil (L : List UInt8) (t : TypeId) (w : World) : (binOp .eql t (str L) (.string ⟨#[]⟩)).run Try.prog w = .ok (.bool L.isEmpty) w := by
  have h : (ByteArray.mk #[]).toList = [] := bytes_toList []
  simp only [binOp, str, Op.stringOp, bytes_toList, h, Sem.run_pure]
  cases L <;> rfl
@[go_sem] theorem neq_one (L : List UInt8) (t : TypeId) (w : World) : (binOp .neq t (str L) (.string ⟨#[48]⟩)).run Try.prog w = .ok (.bool (!(L == [48]))) w := by
  have h : (ByteArray.mk #[48]).toList = [48] := bytes_toList [48]
  simp only [binOp, str, Op.stringOp, bytes_toList, h, Sem.run_pure]
@[go_sem] theorem neq_strs (L M : List UInt8) (t : TypeId) (w : World) : (binOp .neq t (str L) (str M)).run Try.prog w = .ok (.bool (!(L == M))) w := by
  simp only [binOp, str, Op.stringOp, bytes_toList, Sem.run_pure]
@[go_sem] theorem eqg_strs (op : BinOp) (t : TypeId) (x y : Operand) (l m : List UInt8) (w : World) : (eqGuard op t x y (str l) (str m)).run Try.prog w = .ok () w := by
  unfold eqGuard str; cases op <;> simp

set_option maxRecDepth 100000 in
set_option maxHeartbeats 1000000 in
/-- digit. -/
theorem digit_c (c : UInt8) (w : World) :
    Calls Try.prog 91 #[.int .u8 (c.toNat : Int)] w fun e w' => e = .returned (.tuple #[.int .u64 (dv c : Int), .bool (okD c)]) ∧ Below w.heap.size w w' := by
  have hlt : c.toNat < 256 := c.toNat_lt
  by_cases ha : 48 ≤ c.toNat ∧ c.toNat ≤ 57
  · have HR := Lib.hid (okD_low ha)
    obtain ⟨n, hn⟩ : ∃ n, c.toNat = n := ⟨_, rfl⟩
    rw [hn] at HR ha hlt ⊢
    clear hn
    have k1 : (48 : Int) ≤ (n : Int) := by omega
    have k2 : (n : Int) ≤ 57 := by omega
    have k3 : IntKind.u8.wrap ((n : Int) - 48) = ((n - 48 : Nat) : Int) := by rw [IntKind.wrap_u8]; omega
    have k4 : IntKind.u64.wrap ((n - 48 : Nat) : Int) = ((n - 48 : Nat) : Int) := by rw [IntKind.wrap_u64]; omega
    go_enter Try.func91, Try.ntmps91
    go_wp2_with fail
    go_ret2
    exact ⟨by rw [HR.out.1, HR.out.2]; rfl, (by repeat (first | exact Below.refl _ _ | exact Below_of_hid (by assumption) | refine Below.drew ?_ | refine below_drewN ?_ _ | refine Below_putRow ?_ (by first | omega | (simp; done) | (simp; omega) | fail) _ _ | refine Below.alloc ?_ (by first | omega | (simp; done) | (simp; omega) | fail) _ | refine Below.setCell ?_ (by first | omega | (simp; done) | (simp; omega) | fail) _ | refine Below.trans ?_ (Below.mono (by assumption) (by first | omega | (simp; done) | (simp; omega) | fail))))⟩
  · by_cases hb : 97 ≤ c.toNat ∧ c.toNat ≤ 102
    · have HR := Lib.hid (okD_high hb)
      obtain ⟨n, hn⟩ : ∃ n, c.toNat = n := ⟨_, rfl⟩
      rw [hn] at HR ha hb hlt ⊢
      clear hn
      have k1 : (48 : Int) ≤ (n : Int) := by omega
      have k2 : ¬ (n : Int) ≤ 57 := by omega
      have k5 : (97 : Int) ≤ (n : Int) := by omega
      have k6 : (n : Int) ≤ 102 := by omega
      have k3 : IntKind.u8.wrap ((n : Int) - 97) = ((n - 97 : Nat) : Int) := by rw [IntKind.wrap_u8]; omega
      have k4 : IntKind.u64.wrap ((n - 97 : Nat) : Int) = ((n - 97 : Nat) : Int) := by rw [IntKind.wrap_u64]; omega
      have k7 : IntKind.u64.wrap (((n - 97 : Nat) : Int) + 10) = ((n - 87 : Nat) : Int) := by rw [IntKind.wrap_u64]; omega
      clear ha hb
      go_enter Try.func91, Try.ntmps91
      go_wp2_with fail
      go_ret2
      exact ⟨by rw [HR.out.1, HR.out.2]; rfl, (by repeat (first | exact Below.refl _ _ | exact Below_of_hid (by assumption) | refine Below.drew ?_ | refine below_drewN ?_ _ | refine Below_putRow ?_ (by first | omega | (simp; done) | (simp; omega) | fail) _ _ | refine Below.alloc ?_ (by first | omega | (simp; done) | (simp; omega) | fail) _ | refine Below.setCell ?_ (by first | omega | (simp; done) | (simp; omega) | fail) _ | refine Below.trans ?_ (Below.mono (by assumption) (by first | omega | (simp; done) | (simp; omega) | fail))))⟩
    · have HR := Lib.hid (okD_none ha hb)
      obtain ⟨n, hn⟩ : ∃ n, c.toNat = n := ⟨_, rfl⟩
      rw [hn] at ha hb hlt ⊢
      clear hn
      have h3 : n < 48 ∨ (57 < n ∧ n < 97) ∨ 102 < n := by omega
      clear ha hb
      rcases h3 with h | ⟨h, h'⟩ | h
      · have k1 : ¬ (48 : Int) ≤ (n : Int) := by omega
        have k2 : ¬ (97 : Int) ≤ (n : Int) := by omega
        clear h
        go_enter Try.func91, Try.ntmps91
        go_wp2_with fail
        go_ret2
        exact ⟨by rw [HR.out.1, HR.out.2]; rfl, (by repeat (first | exact Below.refl _ _ | exact Below_of_hid (by assumption) | refine Below.drew ?_ | refine below_drewN ?_ _ | refine Below_putRow ?_ (by first | omega | (simp; done) | (simp; omega) | fail) _ _ | refine Below.alloc ?_ (by first | omega | (simp; done) | (simp; omega) | fail) _ | refine Below.setCell ?_ (by first | omega | (simp; done) | (simp; omega) | fail) _ | refine Below.trans ?_ (Below.mono (by assumption) (by first | omega | (simp; done) | (simp; omega) | fail))))⟩
      · have k1 : (48 : Int) ≤ (n : Int) := by omega
        have k3 : ¬ (n : Int) ≤ 57 := by omega
        have k2 : ¬ (97 : Int) ≤ (n : Int) := by omega
        clear h h'
        go_enter Try.func91, Try.ntmps91
        go_wp2_with fail
        go_ret2
        exact ⟨by rw [HR.out.1, HR.out.2]; rfl, (by repeat (first | exact Below.refl _ _ | exact Below_of_hid (by assumption) | refine Below.drew ?_ | refine below_drewN ?_ _ | refine Below_putRow ?_ (by first | omega | (simp; done) | (simp; omega) | fail) _ _ | refine Below.alloc ?_ (by first | omega | (simp; done) | (simp; omega) | fail) _ | refine Below.setCell ?_ (by first | omega | (simp; done) | (simp; omega) | fail) _ | refine Below.trans ?_ (Below.mono (by assumption) (by first | omega | (simp; done) | (simp; omega) | fail))))⟩
      · have k1 : (48 : Int) ≤ (n : Int) := by omega
        have k3 : ¬ (n : Int) ≤ 57 := by omega
        have k2 : (97 : Int) ≤ (n : Int) := by omega
        have k4 : ¬ (n : Int) ≤ 102 := by omega
        clear h
        go_enter Try.func91, Try.ntmps91
        go_wp2_with fail
        go_ret2
        exact ⟨by rw [HR.out.1, HR.out.2]; rfl, (by repeat (first | exact Below.refl _ _ | exact Below_of_hid (by assumption) | refine Below.drew ?_ | refine below_drewN ?_ _ | refine Below_putRow ?_ (by first | omega | (simp; done) | (simp; omega) | fail) _ _ | refine Below.alloc ?_ (by first | omega | (simp; done) | (simp; omega) | fail) _ | refine Below.setCell ?_ (by first | omega | (simp; done) | (simp; omega) | fail) _ | refine Below.trans ?_ (Below.mono (by assumption) (by first | omega | (simp; done) | (simp; omega) | fail))))⟩
end Go.Proofs.Ytkepdjmgmjhejaa
namespace Go.Proofs.Ytkepdjmgmjhejaa
open Go.RowKit

theorem nib_or (M d : Nat) (hd : d < 16) (hM : M % 16 = 0) : wdn M 0 ||| d = wdn M 0 + d := by
  have h : wdn M 0 = 2 ^ 4 * (wdn M 0 / 16) := by unfold wdn; rw [Nat.mul_zero, Nat.pow_zero, Nat.div_one]; omega
  rw [h, ← Nat.two_pow_add_eq_or_of_lt (by omega)]
theorem wdn_nib (M d : Nat) (hd : d < 16) (hM : M % 16 = 0) : wdn (M + d) 0 = wdn M 0 + d := by
  unfold wdn; rw [Nat.mul_zero, Nat.pow_zero, Nat.div_one, Nat.div_one]; omega
theorem wdn_high (M d j : Nat) (hd : d < 16) (hM : M % 16 = 0) (hj : j ≠ 0) : wdn (M + d) j = wdn M j := by
  unfold wdn
  obtain ⟨i, rfl⟩ : ∃ i, j = i + 1 := ⟨j - 1, by omega⟩
  rw [show 64 * (i + 1) = 4 + (64 * i + 60) by omega, Nat.pow_add, ← Nat.div_div_eq_div_mul, ← Nat.div_div_eq_div_mul]
  rw [show (M + d) / 2 ^ 4 = M / 2 ^ 4 by omega]
theorem row_nib (M d : Nat) (hd : d < 16) (hM : M % 16 = 0) : (rowW 16 M).setIfInBounds 0 (.int .u64 ((wdn M 0 + d : Nat) : Int)) = rowW 16 (M + d) := by
  apply Array.ext_getElem?
  intro j
  rw [Array.getElem?_setIfInBounds]
  by_cases h0 : 0 = j
  · subst h0
    rw [if_pos rfl, if_pos (by simp), rowW_get _ _ _ (by decide)]
    unfold wd; rw [wdn_nib M d hd hM]
  · rw [if_neg h0]
    by_cases hj : j < 16
    · rw [rowW_get _ _ _ hj, rowW_get _ _ _ hj]; unfold wd; rw [wdn_high M d j hd hM (by omega)]
    · rw [Array.getElem?_eq_none (by simpa using hj), Array.getElem?_eq_none (by simpa using hj)]
theorem W16_16 (N m : Nat) (hm : m ≤ 256) (h : N < 16 ^ m) : N < W16 := by
  have h1 : bl N ≤ 4 * m := (bl_le_iff _ _).2 (by rw [← p16]; exact h)
  have := (bl_le_iff N (64 * 16)).1 (by omega)
  unfold W16; exact this
set_option maxRecDepth 100000 in
set_option maxHeartbeats 2000000 in
/-- Parse. -/
theorem parse_w (L : List UInt8) (w : World) :
    Calls Try.prog 36 #[str L] w fun e w' => e = .returned (.tuple #[.agg (prs L).cells, .bool (prO L)]) ∧ Below w.heap.size w w' := by
  have E0 := Lib.hid WI.of_0
  by_cases hl : L.length ≤ 300
  · have l1 : ¬ (300 : Int) < (L.length : Int) := by omega
    have HL := Lib.hid hl
    by_cases h0 : L = []
    · have HF : Hid (prs L = WI.of 0 ∧ prO L = false) := fail_nil (by subst h0; rfl)
      subst h0
      have l2 : ¬ (0 : Int) < (([] : List UInt8).length : Int) := by decide
      clear hl
      go_enter Try.func36, Try.ntmps36
      go_wp2_with fail
      exact bodyPost_row_t 18 (cellsI false false 0) (.bool false) rfl rfl rfl rfl Try.underlying29 rfl info_Int (by go_simp) ⟨by rw [HF.out.1, HF.out.2, E0.out], (by repeat (first | exact Below.refl _ _ | exact Below_of_hid (by assumption) | refine Below.drew ?_ | refine below_drewN ?_ _ | refine Below_putRow ?_ (by first | omega | (simp; done) | (simp; omega) | fail) _ _ | refine Below.alloc ?_ (by first | omega | (simp; done) | (simp; omega) | fail) _ | refine Below.setCell ?_ (by first | omega | (simp; done) | (simp; omega) | fail) _ | refine Below.trans ?_ (Below.mono (by assumption) (by first | omega | (simp; done) | (simp; omega) | fail))))⟩
    · have l2 : (0 : Int) < (L.length : Int) := by have := List.length_pos_iff.2 h0; omega
      have ix0 : ∀ w, (Instr.index 9 (str L) (.int .i64 0)).run Try.prog w = .ok (.int .u8 (L[0]'(by omega)).toNat) w := fun w => idx_str L 0 0 rfl _ w
      have hhd : L.head? = some (L[0]'(by omega)) := by rw [List.head?_eq_getElem?, List.getElem?_eq_getElem]
      obtain ⟨D, hT⟩ : ∃ D, prT L = D := ⟨_, rfl⟩
      have HT := Lib.hid hT
      obtain ⟨sg, hsg⟩ : ∃ sg, prN L = sg := ⟨_, rfl⟩
      have HSG := Lib.hid hsg
      by_cases h45 : L.head? = some 45
      · have g1 : (L[0]'(by omega)).toNat = 45 := by rw [h45] at hhd; have := Option.some.inj hhd; rw [← this]; rfl
        rw [g1] at ix0
        have hs : ∀ w, (Instr.slice 9 (str L) (some (.int .i64 1)) none none).run Try.prog w = .ok (str D) w := fun w => by
          cases L with
          | nil => exact absurd rfl h0
          | cons c t => rw [← hT]; unfold prT; rw [if_pos h45]; exact slice_tail c t w
        have e : sg = true := by rw [← hsg]; unfold prN; exact decide_eq_true h45
        subst e
        clear hhd g1 hl h0 h45 hT hsg
        by_cases t0 : D = []
        · have HF := Lib.hid (fail_nil (HT.out.trans t0))
          have l3 : D.isEmpty = true := by rw [t0]; rfl
          clear t0
          go_enter Try.func36, Try.ntmps36
          go_wp2_with fail
          exact bodyPost_row_t 18 (cellsI false false 0) (.bool false) rfl rfl rfl rfl Try.underlying29 rfl info_Int (by go_simp) ⟨by rw [HF.out.1, HF.out.2, E0.out], (by repeat (first | exact Below.refl _ _ | exact Below_of_hid (by assumption) | refine Below.drew ?_ | refine below_drewN ?_ _ | refine Below_putRow ?_ (by first | omega | (simp; done) | (simp; omega) | fail) _ _ | refine Below.alloc ?_ (by first | omega | (simp; done) | (simp; omega) | fail) _ | refine Below.setCell ?_ (by first | omega | (simp; done) | (simp; omega) | fail) _ | refine Below.trans ?_ (Below.mono (by assumption) (by first | omega | (simp; done) | (simp; omega) | fail))))⟩
        · have l3 : D.isEmpty = false := by simpa using t0
          have hp := List.length_pos_iff.2 t0
          have ixt : ∀ w, (Instr.index 9 (str D) (.int .i64 0)).run Try.prog w = .ok (.int .u8 (D[0]'hp).toNat) w := fun w => idx_str D 0 0 rfl _ w
          have hth : D.head? = some (D[0]'hp) := by rw [List.head?_eq_getElem?, List.getElem?_eq_getElem]
          by_cases hz : D.head? = some 48 ∧ (L == [48]) = false
          · have HF := Lib.hid (fail_zero (by rw [HT.out]; exact hz.1) hz.2)
            have g2 : (D[0]'hp).toNat = 48 := by have h := hz.1; rw [hth] at h; have := Option.some.inj h; rw [this]; rfl
            rw [g2] at ixt
            have g3 := hz.2
            clear hz g2 hth hp t0
            go_enter Try.func36, Try.ntmps36
            go_wp2_with fail
            exact bodyPost_row_t 18 (cellsI false false 0) (.bool false) rfl rfl rfl rfl Try.underlying29 rfl info_Int (by go_simp) ⟨by rw [HF.out.1, HF.out.2, E0.out], (by repeat (first | exact Below.refl _ _ | exact Below_of_hid (by assumption) | refine Below.drew ?_ | refine below_drewN ?_ _ | refine Below_putRow ?_ (by first | omega | (simp; done) | (simp; omega) | fail) _ _ | refine Below.alloc ?_ (by first | omega | (simp; done) | (simp; omega) | fail) _ | refine Below.setCell ?_ (by first | omega | (simp; done) | (simp; omega) | fail) _ | refine Below.trans ?_ (Below.mono (by assumption) (by first | omega | (simp; done) | (simp; omega) | fail))))⟩
          · have hz' : D.head? ≠ some 48 ∨ (L == [48]) = true := by
              by_cases h : D.head? = some 48
              · right; cases hh : (L == [48]) with
                | true => rfl
                | false => exact absurd ⟨h, hh⟩ hz
              · exact .inl h
            have HZ := Lib.hid hz'
            have HT0 := Lib.hid t0
            obtain ⟨c1, hc1⟩ : ∃ c, c = (D[0]'hp).toNat := ⟨_, rfl⟩
            have g4 : (¬ (c1 : Int) = 48) ∨ ((c1 : Int) = 48 ∧ (L == [48]) = true) := by
              rcases hz' with h | h
              · left; intro h2; apply h; rw [hth]; congr 1; exact UInt8.toNat_inj.1 (by show _ = 48; omega)
              · by_cases h2 : (c1 : Int) = 48
                · exact .inr ⟨h2, h⟩
                · exact .inl h2
            rw [← hc1] at ixt
            clear hz hz' hth hp t0 hc1
            by_cases hm : D.length ≤ 256
            · have g5 : ¬ (256 : Int) < (D.length : Int) := by omega
              have HM := Lib.hid hm
              rcases g4 with g4 | ⟨g4, g6⟩
              · clear hm
                go_enter Try.func36, Try.ntmps36
                go_wp2_with fail
                go_loopw [46] (fun t46 wr => ∃ k : Nat, k ≤ D.length ∧ t46 = .int .i64 k ∧ Hid ((D.take k).all okD = true) ∧ Hid (Blk wr (w.heap.size + 1) (rowW 16 (vl (D.take k))) 27) ∧ Hid (Blk wr w.heap.size (cellsI false false 0) 29) ∧ Hid (Below w.heap.size w wr)) (fun t46 _ => D.length - (intOf t46).toNat)
                case atStart =>
                  refine ⟨0, Nat.zero_le _, rfl, rfl, ?_, ?_, (by repeat (first | exact Below.refl _ _ | exact Below_of_hid (by assumption) | refine Below.drew ?_ | refine below_drewN ?_ _ | refine Below_putRow ?_ (by first | omega | (simp; done) | (simp; omega) | fail) _ _ | refine Below.alloc ?_ (by first | omega | (simp; done) | (simp; omega) | fail) _ | refine Below.setCell ?_ (by first | omega | (simp; done) | (simp; omega) | fail) _ | refine Below.trans ?_ (Below.mono (by assumption) (by first | omega | (simp; done) | (simp; omega) | fail))))⟩
                  · rw [show rowW 16 (vl (D.take 0)) = rowW 16 0 from rfl, rowW_zero16]; exact Blk.new' _ _ _ (by simp)
                  · exact (Blk.new _ _ _).alloc _
                case round =>
                  obtain ⟨k, hk, rfl, HG, Q1, Q0, HB⟩ := hrel
                  by_cases hlt : k < D.length
                  · have k1 : (k : Int) < (D.length : Int) := by omega
                    have ixk : ∀ w, (Instr.index 9 (str D) (.int .i64 (k : Int))).run Try.prog w = .ok (.int .u8 (D[k]'hlt).toNat) w := fun w => idx_str D k k rfl _ w
                    have HFD : Hid (okD (D[k]'hlt) = false → prs L = WI.of 0 ∧ prO L = false) := fun h => fail_dig (L := L) (i := k) (by rw [HT.out]; exact hlt) (by simp only [HT.out]; exact h)
                    have HV := Lib.hid (vl_take D k hlt)
                    have HG2 : Hid (okD (D[k]'hlt) = true → (D.take (k + 1)).all okD = true) := fun h => by
                      show _ = _
                      rw [List.take_succ_eq_append_getElem hlt, List.all_append, HG.out]; simpa using h
                    obtain ⟨c, hc⟩ : ∃ c, D[k]'hlt = c := ⟨_, rfl⟩
                    rw [hc] at ixk HFD HV HG2
                    obtain ⟨N, hN⟩ : ∃ N, vl (D.take k) = N := ⟨_, rfl⟩
                    rw [hN] at HV Q1
                    have HN : Hid (N < 16 ^ 256) := by
                      have h1 := vl_lt (D.take k)
                      rw [hN, List.length_take] at h1
                      exact Nat.lt_of_lt_of_le h1 (Nat.pow_le_pow_right (by decide) (by have := HM.out; omega))
                    have kw : wrap64 ((k : Int) + 1) = (k : Int) + 1 := by have := HM.out; unfold wrap64; omega
                    clear hc hN
                    go_wp2_with fail
                    refine (digit_c c _).mono ?_
                    rintro e w1 ⟨rfl, hb1⟩
                    replace Q0 := Lib.hid (Q0.out.keep hb1)
                    replace Q1 := Lib.hid (Q1.out.keep hb1)
                    have HB1 := Lib.hid (HB.out.trans (hb1.mono HB.out.size))
                    clear hb1
                    cases hok : okD c with
                    | false =>
                      have HF := Lib.hid (HFD.out hok)
                      have p0 := Q0.out.put? 0 (cellsI false false 0) (by simp) (by simp)
                      have t0 := Q0.out.fits 18 (by simp)
                      have r0 := row_put p0 (n := 18) (by simp)
                      go_wp2_with fail
                      exact bodyPost_row_t 18 (cellsI false false 0) (.bool false) rfl rfl rfl rfl Try.underlying29 rfl info_Int (by first | exact r0 | go_simp) ⟨by rw [HF.out.1, HF.out.2, E0.out], Below_putRow HB1.out (by omega) _ _⟩
                    | true =>
                      go_wp2_with fail
                      refine (up_c _ _ N 4 _ (by decide) (.of_blk Q1.out)).mono ?_
                      rintro e w2 ⟨rfl, hb2⟩
                      replace Q0 := Lib.hid (Q0.out.keep hb2)
                      replace Q1 := Lib.hid (Q1.out.keep hb2)
                      have HB2 := Lib.hid (HB1.out.trans (hb2.mono HB1.out.size))
                      clear hb2
                      obtain ⟨M, hM⟩ : ∃ M, N * 2 ^ 4 = M := ⟨_, rfl⟩
                      rw [hM]
                      have p1 := Q1.out.put? 0 (rowW 16 M) (by simp) (by simp)
                      have t1 := Q1.out.fits 16 (by simp)
                      have Q2 : Hid (Blk (w2.putRow (w.heap.size + 1) 0 (rowW 16 M)) (w.heap.size + 1) (rowW 16 M) 27) := by
                        have := Q1.out.putRow_same 0 (rowW 16 M); rw [splice_all _ _ (by simp)] at this; exact this
                      have c2 : (w2.putRow (w.heap.size + 1) 0 (rowW 16 M)).cell? ⟨w.heap.size + 1, 0, none⟩ = some (.int .u64 ((wdn M 0 : Nat) : Int)) := Q2.out.cell (rowW_get 16 M 0 (by decide))
                      have f2 := Q2.out.frozen 0
                      have hM16 : M % 16 = 0 := by omega
                      have y1 : bits .or .u64 ((wdn M 0 : Nat) : Int) (dv c : Int) = ((wdn M 0 + dv c : Nat) : Int) := by
                        rw [bits_or_u64_nat _ _ (wdn_lt _ _) (Nat.lt_of_lt_of_le (dv_lt c) (by decide)), nib_or M _ (dv_lt c) hM16]
                      have Q0' : Hid (Blk (w2.putRow (w.heap.size + 1) 0 (rowW 16 M)) w.heap.size (cellsI false false 0) 29) := Q0.out.putRow_other (by omega) _ _
                      have HB3 := Lib.hid (Below_putRow (g := w.heap.size + 1) HB2.out (by omega) 0 (rowW 16 M))
                      have s1 := Q2.out.lt
                      have HROW := Lib.hid (row_nib M (dv c) (dv_lt c) hM16)
                      have HV2 : Hid (vl (D.take (k + 1)) = M + dv c) := by show _ = _; rw [HV.out]; omega
                      have HG3 := Lib.hid (HG2.out hok)
                      have hk2 : Hid (k + 1 ≤ D.length) := hlt
                      clear hM hM16
                      go_wp2_with fail
                      refine ⟨⟨k + 1, hk2.out, by first | rfl | go_num, HG3, ?_, ?_, ?_⟩, by simp [intOf] <;> omega⟩
                      · rw [HV2.out, ← HROW.out]; exact Q2.out.setCell_same 0 _
                      · exact Q0'.out.setCell_other (by simp) _
                      · exact HB3.out.setCell (by simp) _
                  · obtain rfl : k = D.length := by omega
                    have k1 : ¬ ((D.length : Nat) : Int) < (D.length : Int) := by omega
                    rw [List.take_length] at Q1 HG
                    have HNW : Hid (vl D < W16) := W16_16 _ _ HM.out (vl_lt D)
                    have r1 : wr.row? (w.heap.size + 1) 0 16 = some (rowW 16 (vl D)) := Q1.out.row?_all 16 (by simp)
                    clear hk hlt
                    go_wp2_with fail
                    refine (made_c true (vl D) HNW.out _).mono ?_
                    rintro e w1 ⟨rfl, hb1⟩
                    replace Q0 := Lib.hid (Q0.out.keep hb1)
                    have HB1 := Lib.hid (HB.out.trans (hb1.mono HB.out.size))
                    clear hb1 r1
                    have HX : Hid (prX L = WI.of (sgn true (vl D))) := by show _ = _; unfold prX; rw [HSG.out, HT.out]
                    obtain ⟨X, hX⟩ : ∃ X, WI.of (sgn true (vl D)) = X := ⟨_, rfl⟩
                    rw [hX] at HX ⊢
                    cases hov : X.ov with
                    | true =>
                      have HF : Hid (prs L = WI.of 0 ∧ prO L = false) := fail_ov (by rw [HX.out]; exact hov)
                      have p0 := (Q0.out.alloc (Obj.cells X.cells 29)).put? 0 (cellsI false false 0) (by simp) (by simp)
                      have t0 := (Q0.out.alloc (Obj.cells X.cells 29)).fits 18 (by simp)
                      have r0 := row_put p0 (n := 18) (by simp)
                      clear hX
                      go_wp2_with fail
                      exact bodyPost_row_t 18 (cellsI false false 0) (.bool false) rfl rfl rfl rfl Try.underlying29 rfl info_Int (by first | exact r0 | go_simp) ⟨by rw [HF.out.1, HF.out.2, E0.out], Below_putRow (HB1.out.alloc HB1.out.size _) (by omega) _ _⟩
                    | false =>
                      have HF : Hid (prs L = X ∧ prO L = true) := by
                        have := good_all HL.out (by rw [HT.out]; exact HT0.out) (by rw [HT.out]; exact HZ.out) (by rw [HT.out]; exact HG.out) (by rw [HX.out]; exact hov)
                        exact ⟨this.1.trans HX.out, this.2⟩
                      have p0 := (Q0.out.alloc (Obj.cells X.cells 29)).put? 0 X.cells (by simp) (by simp)
                      have t0 := (Q0.out.alloc (Obj.cells X.cells 29)).fits 18 (by simp)
                      have r0 := row_put p0 (n := 18) (by simp)
                      clear hX
                      go_wp2_with fail
                      exact bodyPost_row_t 18 X.cells (.bool true) rfl rfl rfl rfl Try.underlying29 rfl info_Int (by first | exact r0 | go_simp) ⟨by rw [HF.out.1, HF.out.2], Below_putRow (HB1.out.alloc HB1.out.size _) (by omega) _ _⟩
              · clear hm
                go_enter Try.func36, Try.ntmps36
                go_wp2_with fail
                go_loopw [46] (fun t46 wr => ∃ k : Nat, k ≤ D.length ∧ t46 = .int .i64 k ∧ Hid ((D.take k).all okD = true) ∧ Hid (Blk wr (w.heap.size + 1) (rowW 16 (vl (D.take k))) 27) ∧ Hid (Blk wr w.heap.size (cellsI false false 0) 29) ∧ Hid (Below w.heap.size w wr)) (fun t46 _ => D.length - (intOf t46).toNat)
                case atStart =>
                  refine ⟨0, Nat.zero_le _, rfl, rfl, ?_, ?_, (by repeat (first | exact Below.refl _ _ | exact Below_of_hid (by assumption) | refine Below.drew ?_ | refine below_drewN ?_ _ | refine Below_putRow ?_ (by first | omega | (simp; done) | (simp; omega) | fail) _ _ | refine Below.alloc ?_ (by first | omega | (simp; done) | (simp; omega) | fail) _ | refine Below.setCell ?_ (by first | omega | (simp; done) | (simp; omega) | fail) _ | refine Below.trans ?_ (Below.mono (by assumption) (by first | omega | (simp; done) | (simp; omega) | fail))))⟩
                  · rw [show rowW 16 (vl (D.take 0)) = rowW 16 0 from rfl, rowW_zero16]; exact Blk.new' _ _ _ (by simp)
                  · exact (Blk.new _ _ _).alloc _
                case round =>
                  obtain ⟨k, hk, rfl, HG, Q1, Q0, HB⟩ := hrel
                  by_cases hlt : k < D.length
                  · have k1 : (k : Int) < (D.length : Int) := by omega
                    have ixk : ∀ w, (Instr.index 9 (str D) (.int .i64 (k : Int))).run Try.prog w = .ok (.int .u8 (D[k]'hlt).toNat) w := fun w => idx_str D k k rfl _ w
                    have HFD : Hid (okD (D[k]'hlt) = false → prs L = WI.of 0 ∧ prO L = false) := fun h => fail_dig (L := L) (i := k) (by rw [HT.out]; exact hlt) (by simp only [HT.out]; exact h)
                    have HV := Lib.hid (vl_take D k hlt)
                    have HG2 : Hid (okD (D[k]'hlt) = true → (D.take (k + 1)).all okD = true) := fun h => by
                      show _ = _
                      rw [List.take_succ_eq_append_getElem hlt, List.all_append, HG.out]; simpa using h
                    obtain ⟨c, hc⟩ : ∃ c, D[k]'hlt = c := ⟨_, rfl⟩
                    rw [hc] at ixk HFD HV HG2
                    obtain ⟨N, hN⟩ : ∃ N, vl (D.take k) = N := ⟨_, rfl⟩
                    rw [hN] at HV Q1
                    have HN : Hid (N < 16 ^ 256) := by
                      have h1 := vl_lt (D.take k)
                      rw [hN, List.length_take] at h1
                      exact Nat.lt_of_lt_of_le h1 (Nat.pow_le_pow_right (by decide) (by have := HM.out; omega))
                    have kw : wrap64 ((k : Int) + 1) = (k : Int) + 1 := by have := HM.out; unfold wrap64; omega
                    clear hc hN
                    go_wp2_with fail
                    refine (digit_c c _).mono ?_
                    rintro e w1 ⟨rfl, hb1⟩
                    replace Q0 := Lib.hid (Q0.out.keep hb1)
                    replace Q1 := Lib.hid (Q1.out.keep hb1)
                    have HB1 := Lib.hid (HB.out.trans (hb1.mono HB.out.size))
                    clear hb1
                    cases hok : okD c with
                    | false =>
                      have HF := Lib.hid (HFD.out hok)
                      have p0 := Q0.out.put? 0 (cellsI false false 0) (by simp) (by simp)
                      have t0 := Q0.out.fits 18 (by simp)
                      have r0 := row_put p0 (n := 18) (by simp)
                      go_wp2_with fail
                      exact bodyPost_row_t 18 (cellsI false false 0) (.bool false) rfl rfl rfl rfl Try.underlying29 rfl info_Int (by first | exact r0 | go_simp) ⟨by rw [HF.out.1, HF.out.2, E0.out], Below_putRow HB1.out (by omega) _ _⟩
                    | true =>
                      go_wp2_with fail
                      refine (up_c _ _ N 4 _ (by decide) (.of_blk Q1.out)).mono ?_
                      rintro e w2 ⟨rfl, hb2⟩
                      replace Q0 := Lib.hid (Q0.out.keep hb2)
                      replace Q1 := Lib.hid (Q1.out.keep hb2)
                      have HB2 := Lib.hid (HB1.out.trans (hb2.mono HB1.out.size))
                      clear hb2
                      obtain ⟨M, hM⟩ : ∃ M, N * 2 ^ 4 = M := ⟨_, rfl⟩
                      rw [hM]
                      have p1 := Q1.out.put? 0 (rowW 16 M) (by simp) (by simp)
                      have t1 := Q1.out.fits 16 (by simp)
                      have Q2 : Hid (Blk (w2.putRow (w.heap.size + 1) 0 (rowW 16 M)) (w.heap.size + 1) (rowW 16 M) 27) := by
                        have := Q1.out.putRow_same 0 (rowW 16 M); rw [splice_all _ _ (by simp)] at this; exact this
                      have c2 : (w2.putRow (w.heap.size + 1) 0 (rowW 16 M)).cell? ⟨w.heap.size + 1, 0, none⟩ = some (.int .u64 ((wdn M 0 : Nat) : Int)) := Q2.out.cell (rowW_get 16 M 0 (by decide))
                      have f2 := Q2.out.frozen 0
                      have hM16 : M % 16 = 0 := by omega
                      have y1 : bits .or .u64 ((wdn M 0 : Nat) : Int) (dv c : Int) = ((wdn M 0 + dv c : Nat) : Int) := by
                        rw [bits_or_u64_nat _ _ (wdn_lt _ _) (Nat.lt_of_lt_of_le (dv_lt c) (by decide)), nib_or M _ (dv_lt c) hM16]
                      have Q0' : Hid (Blk (w2.putRow (w.heap.size + 1) 0 (rowW 16 M)) w.heap.size (cellsI false false 0) 29) := Q0.out.putRow_other (by omega) _ _
                      have HB3 := Lib.hid (Below_putRow (g := w.heap.size + 1) HB2.out (by omega) 0 (rowW 16 M))
                      have s1 := Q2.out.lt
                      have HROW := Lib.hid (row_nib M (dv c) (dv_lt c) hM16)
                      have HV2 : Hid (vl (D.take (k + 1)) = M + dv c) := by show _ = _; rw [HV.out]; omega
                      have HG3 := Lib.hid (HG2.out hok)
                      have hk2 : Hid (k + 1 ≤ D.length) := hlt
                      clear hM hM16
                      go_wp2_with fail
                      refine ⟨⟨k + 1, hk2.out, by first | rfl | go_num, HG3, ?_, ?_, ?_⟩, by simp [intOf] <;> omega⟩
                      · rw [HV2.out, ← HROW.out]; exact Q2.out.setCell_same 0 _
                      · exact Q0'.out.setCell_other (by simp) _
                      · exact HB3.out.setCell (by simp) _
                  · obtain rfl : k = D.length := by omega
                    have k1 : ¬ ((D.length : Nat) : Int) < (D.length : Int) := by omega
                    rw [List.take_length] at Q1 HG
                    have HNW : Hid (vl D < W16) := W16_16 _ _ HM.out (vl_lt D)
                    have r1 : wr.row? (w.heap.size + 1) 0 16 = some (rowW 16 (vl D)) := Q1.out.row?_all 16 (by simp)
                    clear hk hlt
                    go_wp2_with fail
                    refine (made_c true (vl D) HNW.out _).mono ?_
                    rintro e w1 ⟨rfl, hb1⟩
                    replace Q0 := Lib.hid (Q0.out.keep hb1)
                    have HB1 := Lib.hid (HB.out.trans (hb1.mono HB.out.size))
                    clear hb1 r1
                    have HX : Hid (prX L = WI.of (sgn true (vl D))) := by show _ = _; unfold prX; rw [HSG.out, HT.out]
                    obtain ⟨X, hX⟩ : ∃ X, WI.of (sgn true (vl D)) = X := ⟨_, rfl⟩
                    rw [hX] at HX ⊢
                    cases hov : X.ov with
                    | true =>
                      have HF : Hid (prs L = WI.of 0 ∧ prO L = false) := fail_ov (by rw [HX.out]; exact hov)
                      have p0 := (Q0.out.alloc (Obj.cells X.cells 29)).put? 0 (cellsI false false 0) (by simp) (by simp)
                      have t0 := (Q0.out.alloc (Obj.cells X.cells 29)).fits 18 (by simp)
                      have r0 := row_put p0 (n := 18) (by simp)
                      clear hX
                      go_wp2_with fail
                      exact bodyPost_row_t 18 (cellsI false false 0) (.bool false) rfl rfl rfl rfl Try.underlying29 rfl info_Int (by first | exact r0 | go_simp) ⟨by rw [HF.out.1, HF.out.2, E0.out], Below_putRow (HB1.out.alloc HB1.out.size _) (by omega) _ _⟩
                    | false =>
                      have HF : Hid (prs L = X ∧ prO L = true) := by
                        have := good_all HL.out (by rw [HT.out]; exact HT0.out) (by rw [HT.out]; exact HZ.out) (by rw [HT.out]; exact HG.out) (by rw [HX.out]; exact hov)
                        exact ⟨this.1.trans HX.out, this.2⟩
                      have p0 := (Q0.out.alloc (Obj.cells X.cells 29)).put? 0 X.cells (by simp) (by simp)
                      have t0 := (Q0.out.alloc (Obj.cells X.cells 29)).fits 18 (by simp)
                      have r0 := row_put p0 (n := 18) (by simp)
                      clear hX
                      go_wp2_with fail
                      exact bodyPost_row_t 18 X.cells (.bool true) rfl rfl rfl rfl Try.underlying29 rfl info_Int (by first | exact r0 | go_simp) ⟨by rw [HF.out.1, HF.out.2], Below_putRow (HB1.out.alloc HB1.out.size _) (by omega) _ _⟩
            · have g5 : (256 : Int) < (D.length : Int) := by omega
              have HF := Lib.hid (fail_long (L := L) (by rw [HT.out]; omega))
              clear hm
              rcases g4 with g4 | ⟨g4, g6⟩
              · go_enter Try.func36, Try.ntmps36
                go_wp2_with fail
                exact bodyPost_row_t 18 (cellsI false false 0) (.bool false) rfl rfl rfl rfl Try.underlying29 rfl info_Int (by go_simp) ⟨by rw [HF.out.1, HF.out.2, E0.out], (by repeat (first | exact Below.refl _ _ | exact Below_of_hid (by assumption) | refine Below.drew ?_ | refine below_drewN ?_ _ | refine Below_putRow ?_ (by first | omega | (simp; done) | (simp; omega) | fail) _ _ | refine Below.alloc ?_ (by first | omega | (simp; done) | (simp; omega) | fail) _ | refine Below.setCell ?_ (by first | omega | (simp; done) | (simp; omega) | fail) _ | refine Below.trans ?_ (Below.mono (by assumption) (by first | omega | (simp; done) | (simp; omega) | fail))))⟩
              · go_enter Try.func36, Try.ntmps36
                go_wp2_with fail
                exact bodyPost_row_t 18 (cellsI false false 0) (.bool false) rfl rfl rfl rfl Try.underlying29 rfl info_Int (by go_simp) ⟨by rw [HF.out.1, HF.out.2, E0.out], (by repeat (first | exact Below.refl _ _ | exact Below_of_hid (by assumption) | refine Below.drew ?_ | refine below_drewN ?_ _ | refine Below_putRow ?_ (by first | omega | (simp; done) | (simp; omega) | fail) _ _ | refine Below.alloc ?_ (by first | omega | (simp; done) | (simp; omega) | fail) _ | refine Below.setCell ?_ (by first | omega | (simp; done) | (simp; omega) | fail) _ | refine Below.trans ?_ (Below.mono (by assumption) (by first | omega | (simp; done) | (simp; omega) | fail))))⟩
      · have g1 : ¬ ((L[0]'(by omega)).toNat : Int) = 45 := by
          intro h
          apply h45
          rw [hhd]; congr 1; exact UInt8.toNat_inj.1 (by show _ = 45; omega)
        have e : sg = false := by rw [← hsg]; unfold prN; exact decide_eq_false h45
        subst e
        have e : L = D := by rw [← hT]; unfold prT; rw [if_neg h45]
        subst e
        clear hhd h45 hT hsg ix0
        by_cases t0 : L = []
        · exact absurd t0 h0
        · have l3 : L.isEmpty = false := by simpa using t0
          have hp := List.length_pos_iff.2 t0
          have ixt : ∀ w, (Instr.index 9 (str L) (.int .i64 0)).run Try.prog w = .ok (.int .u8 (L[0]'hp).toNat) w := fun w => idx_str L 0 0 rfl _ w
          have hth : L.head? = some (L[0]'hp) := by rw [List.head?_eq_getElem?, List.getElem?_eq_getElem]
          by_cases hz : L.head? = some 48 ∧ (L == [48]) = false
          · have HF := Lib.hid (fail_zero (by rw [HT.out]; exact hz.1) hz.2)
            have g2 : (L[0]'hp).toNat = 48 := by have h := hz.1; rw [hth] at h; have := Option.some.inj h; rw [this]; rfl
            clear g1
            rw [g2] at ixt
            have g3 := hz.2
            clear hz g2 hth hp t0
            go_enter Try.func36, Try.ntmps36
            go_wp2_with fail
            exact bodyPost_row_t 18 (cellsI false false 0) (.bool false) rfl rfl rfl rfl Try.underlying29 rfl info_Int (by go_simp) ⟨by rw [HF.out.1, HF.out.2, E0.out], (by repeat (first | exact Below.refl _ _ | exact Below_of_hid (by assumption) | refine Below.drew ?_ | refine below_drewN ?_ _ | refine Below_putRow ?_ (by first | omega | (simp; done) | (simp; omega) | fail) _ _ | refine Below.alloc ?_ (by first | omega | (simp; done) | (simp; omega) | fail) _ | refine Below.setCell ?_ (by first | omega | (simp; done) | (simp; omega) | fail) _ | refine Below.trans ?_ (Below.mono (by assumption) (by first | omega | (simp; done) | (simp; omega) | fail))))⟩
          · have hz' : L.head? ≠ some 48 ∨ (L == [48]) = true := by
              by_cases h : L.head? = some 48
              · right; cases hh : (L == [48]) with
                | true => rfl
                | false => exact absurd ⟨h, hh⟩ hz
              · exact .inl h
            have HZ := Lib.hid hz'
            have HT0 := Lib.hid t0
            obtain ⟨c1, hc1⟩ : ∃ c, c = (L[0]'hp).toNat := ⟨_, rfl⟩
            have g4 : (¬ (c1 : Int) = 48) ∨ ((c1 : Int) = 48 ∧ (L == [48]) = true) := by
              rcases hz' with h | h
              · left; intro h2; apply h; rw [hth]; congr 1; exact UInt8.toNat_inj.1 (by show _ = 48; omega)
              · by_cases h2 : (c1 : Int) = 48
                · exact .inr ⟨h2, h⟩
                · exact .inl h2
            rw [← hc1] at ixt g1
            clear hz hz' hth hp t0 hc1
            by_cases hm : L.length ≤ 256
            · have g5 : ¬ (256 : Int) < (L.length : Int) := by omega
              have HM := Lib.hid hm
              rcases g4 with g4 | ⟨g4, g6⟩
              · clear hm
                go_enter Try.func36, Try.ntmps36
                go_wp2_with fail
                go_loopw [46] (fun t46 wr => ∃ k : Nat, k ≤ L.length ∧ t46 = .int .i64 k ∧ Hid ((L.take k).all okD = true) ∧ Hid (Blk wr (w.heap.size + 1) (rowW 16 (vl (L.take k))) 27) ∧ Hid (Blk wr w.heap.size (cellsI false false 0) 29) ∧ Hid (Below w.heap.size w wr)) (fun t46 _ => L.length - (intOf t46).toNat)
                case atStart =>
                  refine ⟨0, Nat.zero_le _, rfl, rfl, ?_, ?_, (by repeat (first | exact Below.refl _ _ | exact Below_of_hid (by assumption) | refine Below.drew ?_ | refine below_drewN ?_ _ | refine Below_putRow ?_ (by first | omega | (simp; done) | (simp; omega) | fail) _ _ | refine Below.alloc ?_ (by first | omega | (simp; done) | (simp; omega) | fail) _ | refine Below.setCell ?_ (by first | omega | (simp; done) | (simp; omega) | fail) _ | refine Below.trans ?_ (Below.mono (by assumption) (by first | omega | (simp; done) | (simp; omega) | fail))))⟩
                  · rw [show rowW 16 (vl (L.take 0)) = rowW 16 0 from rfl, rowW_zero16]; exact Blk.new' _ _ _ (by simp)
                  · exact (Blk.new _ _ _).alloc _
                case round =>
                  obtain ⟨k, hk, rfl, HG, Q1, Q0, HB⟩ := hrel
                  by_cases hlt : k < L.length
                  · have k1 : (k : Int) < (L.length : Int) := by omega
                    have ixk : ∀ w, (Instr.index 9 (str L) (.int .i64 (k : Int))).run Try.prog w = .ok (.int .u8 (L[k]'hlt).toNat) w := fun w => idx_str L k k rfl _ w
                    have HFD : Hid (okD (L[k]'hlt) = false → prs L = WI.of 0 ∧ prO L = false) := fun h => fail_dig (L := L) (i := k) (by rw [HT.out]; exact hlt) (by simp only [HT.out]; exact h)
                    have HV := Lib.hid (vl_take L k hlt)
                    have HG2 : Hid (okD (L[k]'hlt) = true → (L.take (k + 1)).all okD = true) := fun h => by
                      show _ = _
                      rw [List.take_succ_eq_append_getElem hlt, List.all_append, HG.out]; simpa using h
                    obtain ⟨c, hc⟩ : ∃ c, L[k]'hlt = c := ⟨_, rfl⟩
                    rw [hc] at ixk HFD HV HG2
                    obtain ⟨N, hN⟩ : ∃ N, vl (L.take k) = N := ⟨_, rfl⟩
                    rw [hN] at HV Q1
                    have HN : Hid (N < 16 ^ 256) := by
                      have h1 := vl_lt (L.take k)
                      rw [hN, List.length_take] at h1
                      exact Nat.lt_of_lt_of_le h1 (Nat.pow_le_pow_right (by decide) (by have := HM.out; omega))
                    have kw : wrap64 ((k : Int) + 1) = (k : Int) + 1 := by have := HM.out; unfold wrap64; omega
                    clear hc hN
                    go_wp2_with fail
                    refine (digit_c c _).mono ?_
                    rintro e w1 ⟨rfl, hb1⟩
                    replace Q0 := Lib.hid (Q0.out.keep hb1)
                    replace Q1 := Lib.hid (Q1.out.keep hb1)
                    have HB1 := Lib.hid (HB.out.trans (hb1.mono HB.out.size))
                    clear hb1
                    cases hok : okD c with
                    | false =>
                      have HF := Lib.hid (HFD.out hok)
                      have p0 := Q0.out.put? 0 (cellsI false false 0) (by simp) (by simp)
                      have t0 := Q0.out.fits 18 (by simp)
                      have r0 := row_put p0 (n := 18) (by simp)
                      go_wp2_with fail
                      exact bodyPost_row_t 18 (cellsI false false 0) (.bool false) rfl rfl rfl rfl Try.underlying29 rfl info_Int (by first | exact r0 | go_simp) ⟨by rw [HF.out.1, HF.out.2, E0.out], Below_putRow HB1.out (by omega) _ _⟩
                    | true =>
                      go_wp2_with fail
                      refine (up_c _ _ N 4 _ (by decide) (.of_blk Q1.out)).mono ?_
                      rintro e w2 ⟨rfl, hb2⟩
                      replace Q0 := Lib.hid (Q0.out.keep hb2)
                      replace Q1 := Lib.hid (Q1.out.keep hb2)
                      have HB2 := Lib.hid (HB1.out.trans (hb2.mono HB1.out.size))
                      clear hb2
                      obtain ⟨M, hM⟩ : ∃ M, N * 2 ^ 4 = M := ⟨_, rfl⟩
                      rw [hM]
                      have p1 := Q1.out.put? 0 (rowW 16 M) (by simp) (by simp)
                      have t1 := Q1.out.fits 16 (by simp)
                      have Q2 : Hid (Blk (w2.putRow (w.heap.size + 1) 0 (rowW 16 M)) (w.heap.size + 1) (rowW 16 M) 27) := by
                        have := Q1.out.putRow_same 0 (rowW 16 M); rw [splice_all _ _ (by simp)] at this; exact this
                      have c2 : (w2.putRow (w.heap.size + 1) 0 (rowW 16 M)).cell? ⟨w.heap.size + 1, 0, none⟩ = some (.int .u64 ((wdn M 0 : Nat) : Int)) := Q2.out.cell (rowW_get 16 M 0 (by decide))
                      have f2 := Q2.out.frozen 0
                      have hM16 : M % 16 = 0 := by omega
                      have y1 : bits .or .u64 ((wdn M 0 : Nat) : Int) (dv c : Int) = ((wdn M 0 + dv c : Nat) : Int) := by
                        rw [bits_or_u64_nat _ _ (wdn_lt _ _) (Nat.lt_of_lt_of_le (dv_lt c) (by decide)), nib_or M _ (dv_lt c) hM16]
                      have Q0' : Hid (Blk (w2.putRow (w.heap.size + 1) 0 (rowW 16 M)) w.heap.size (cellsI false false 0) 29) := Q0.out.putRow_other (by omega) _ _
                      have HB3 := Lib.hid (Below_putRow (g := w.heap.size + 1) HB2.out (by omega) 0 (rowW 16 M))
                      have s1 := Q2.out.lt
                      have HROW := Lib.hid (row_nib M (dv c) (dv_lt c) hM16)
                      have HV2 : Hid (vl (L.take (k + 1)) = M + dv c) := by show _ = _; rw [HV.out]; omega
                      have HG3 := Lib.hid (HG2.out hok)
                      have hk2 : Hid (k + 1 ≤ L.length) := hlt
                      clear hM hM16
                      go_wp2_with fail
                      refine ⟨⟨k + 1, hk2.out, by first | rfl | go_num, HG3, ?_, ?_, ?_⟩, by simp [intOf] <;> omega⟩
                      · rw [HV2.out, ← HROW.out]; exact Q2.out.setCell_same 0 _
                      · exact Q0'.out.setCell_other (by simp) _
                      · exact HB3.out.setCell (by simp) _
                  · obtain rfl : k = L.length := by omega
                    have k1 : ¬ ((L.length : Nat) : Int) < (L.length : Int) := by omega
                    rw [List.take_length] at Q1 HG
                    have HNW : Hid (vl L < W16) := W16_16 _ _ HM.out (vl_lt L)
                    have r1 : wr.row? (w.heap.size + 1) 0 16 = some (rowW 16 (vl L)) := Q1.out.row?_all 16 (by simp)
                    clear hk hlt
                    go_wp2_with fail
                    refine (made_c false (vl L) HNW.out _).mono ?_
                    rintro e w1 ⟨rfl, hb1⟩
                    replace Q0 := Lib.hid (Q0.out.keep hb1)
                    have HB1 := Lib.hid (HB.out.trans (hb1.mono HB.out.size))
                    clear hb1 r1
                    have HX : Hid (prX L = WI.of (sgn false (vl L))) := by show _ = _; unfold prX; rw [HSG.out, HT.out]
                    obtain ⟨X, hX⟩ : ∃ X, WI.of (sgn false (vl L)) = X := ⟨_, rfl⟩
                    rw [hX] at HX ⊢
                    cases hov : X.ov with
                    | true =>
                      have HF : Hid (prs L = WI.of 0 ∧ prO L = false) := fail_ov (by rw [HX.out]; exact hov)
                      have p0 := (Q0.out.alloc (Obj.cells X.cells 29)).put? 0 (cellsI false false 0) (by simp) (by simp)
                      have t0 := (Q0.out.alloc (Obj.cells X.cells 29)).fits 18 (by simp)
                      have r0 := row_put p0 (n := 18) (by simp)
                      clear hX
                      go_wp2_with fail
                      exact bodyPost_row_t 18 (cellsI false false 0) (.bool false) rfl rfl rfl rfl Try.underlying29 rfl info_Int (by first | exact r0 | go_simp) ⟨by rw [HF.out.1, HF.out.2, E0.out], Below_putRow (HB1.out.alloc HB1.out.size _) (by omega) _ _⟩
                    | false =>
                      have HF : Hid (prs L = X ∧ prO L = true) := by
                        have := good_all HL.out (by rw [HT.out]; exact HT0.out) (by rw [HT.out]; exact HZ.out) (by rw [HT.out]; exact HG.out) (by rw [HX.out]; exact hov)
                        exact ⟨this.1.trans HX.out, this.2⟩
                      have p0 := (Q0.out.alloc (Obj.cells X.cells 29)).put? 0 X.cells (by simp) (by simp)
                      have t0 := (Q0.out.alloc (Obj.cells X.cells 29)).fits 18 (by simp)
                      have r0 := row_put p0 (n := 18) (by simp)
                      clear hX
                      go_wp2_with fail
                      exact bodyPost_row_t 18 X.cells (.bool true) rfl rfl rfl rfl Try.underlying29 rfl info_Int (by first | exact r0 | go_simp) ⟨by rw [HF.out.1, HF.out.2], Below_putRow (HB1.out.alloc HB1.out.size _) (by omega) _ _⟩
              · clear hm
                go_enter Try.func36, Try.ntmps36
                go_wp2_with fail
                go_loopw [46] (fun t46 wr => ∃ k : Nat, k ≤ L.length ∧ t46 = .int .i64 k ∧ Hid ((L.take k).all okD = true) ∧ Hid (Blk wr (w.heap.size + 1) (rowW 16 (vl (L.take k))) 27) ∧ Hid (Blk wr w.heap.size (cellsI false false 0) 29) ∧ Hid (Below w.heap.size w wr)) (fun t46 _ => L.length - (intOf t46).toNat)
                case atStart =>
                  refine ⟨0, Nat.zero_le _, rfl, rfl, ?_, ?_, (by repeat (first | exact Below.refl _ _ | exact Below_of_hid (by assumption) | refine Below.drew ?_ | refine below_drewN ?_ _ | refine Below_putRow ?_ (by first | omega | (simp; done) | (simp; omega) | fail) _ _ | refine Below.alloc ?_ (by first | omega | (simp; done) | (simp; omega) | fail) _ | refine Below.setCell ?_ (by first | omega | (simp; done) | (simp; omega) | fail) _ | refine Below.trans ?_ (Below.mono (by assumption) (by first | omega | (simp; done) | (simp; omega) | fail))))⟩
                  · rw [show rowW 16 (vl (L.take 0)) = rowW 16 0 from rfl, rowW_zero16]; exact Blk.new' _ _ _ (by simp)
                  · exact (Blk.new _ _ _).alloc _
                case round =>
                  obtain ⟨k, hk, rfl, HG, Q1, Q0, HB⟩ := hrel
                  by_cases hlt : k < L.length
                  · have k1 : (k : Int) < (L.length : Int) := by omega
                    have ixk : ∀ w, (Instr.index 9 (str L) (.int .i64 (k : Int))).run Try.prog w = .ok (.int .u8 (L[k]'hlt).toNat) w := fun w => idx_str L k k rfl _ w
                    have HFD : Hid (okD (L[k]'hlt) = false → prs L = WI.of 0 ∧ prO L = false) := fun h => fail_dig (L := L) (i := k) (by rw [HT.out]; exact hlt) (by simp only [HT.out]; exact h)
                    have HV := Lib.hid (vl_take L k hlt)
                    have HG2 : Hid (okD (L[k]'hlt) = true → (L.take (k + 1)).all okD = true) := fun h => by
                      show _ = _
                      rw [List.take_succ_eq_append_getElem hlt, List.all_append, HG.out]; simpa using h
                    obtain ⟨c, hc⟩ : ∃ c, L[k]'hlt = c := ⟨_, rfl⟩
                    rw [hc] at ixk HFD HV HG2
                    obtain ⟨N, hN⟩ : ∃ N, vl (L.take k) = N := ⟨_, rfl⟩
                    rw [hN] at HV Q1
                    have HN : Hid (N < 16 ^ 256) := by
                      have h1 := vl_lt (L.take k)
                      rw [hN, List.length_take] at h1
                      exact Nat.lt_of_lt_of_le h1 (Nat.pow_le_pow_right (by decide) (by have := HM.out; omega))
                    have kw : wrap64 ((k : Int) + 1) = (k : Int) + 1 := by have := HM.out; unfold wrap64; omega
                    clear hc hN
                    go_wp2_with fail
                    refine (digit_c c _).mono ?_
                    rintro e w1 ⟨rfl, hb1⟩
                    replace Q0 := Lib.hid (Q0.out.keep hb1)
                    replace Q1 := Lib.hid (Q1.out.keep hb1)
                    have HB1 := Lib.hid (HB.out.trans (hb1.mono HB.out.size))
                    clear hb1
                    cases hok : okD c with
                    | false =>
                      have HF := Lib.hid (HFD.out hok)
                      have p0 := Q0.out.put? 0 (cellsI false false 0) (by simp) (by simp)
                      have t0 := Q0.out.fits 18 (by simp)
                      have r0 := row_put p0 (n := 18) (by simp)
                      go_wp2_with fail
                      exact bodyPost_row_t 18 (cellsI false false 0) (.bool false) rfl rfl rfl rfl Try.underlying29 rfl info_Int (by first | exact r0 | go_simp) ⟨by rw [HF.out.1, HF.out.2, E0.out], Below_putRow HB1.out (by omega) _ _⟩
                    | true =>
                      go_wp2_with fail
                      refine (up_c _ _ N 4 _ (by decide) (.of_blk Q1.out)).mono ?_
                      rintro e w2 ⟨rfl, hb2⟩
                      replace Q0 := Lib.hid (Q0.out.keep hb2)
                      replace Q1 := Lib.hid (Q1.out.keep hb2)
                      have HB2 := Lib.hid (HB1.out.trans (hb2.mono HB1.out.size))
                      clear hb2
                      obtain ⟨M, hM⟩ : ∃ M, N * 2 ^ 4 = M := ⟨_, rfl⟩
                      rw [hM]
                      have p1 := Q1.out.put? 0 (rowW 16 M) (by simp) (by simp)
                      have t1 := Q1.out.fits 16 (by simp)
                      have Q2 : Hid (Blk (w2.putRow (w.heap.size + 1) 0 (rowW 16 M)) (w.heap.size + 1) (rowW 16 M) 27) := by
                        have := Q1.out.putRow_same 0 (rowW 16 M); rw [splice_all _ _ (by simp)] at this; exact this
                      have c2 : (w2.putRow (w.heap.size + 1) 0 (rowW 16 M)).cell? ⟨w.heap.size + 1, 0, none⟩ = some (.int .u64 ((wdn M 0 : Nat) : Int)) := Q2.out.cell (rowW_get 16 M 0 (by decide))
                      have f2 := Q2.out.frozen 0
                      have hM16 : M % 16 = 0 := by omega
                      have y1 : bits .or .u64 ((wdn M 0 : Nat) : Int) (dv c : Int) = ((wdn M 0 + dv c : Nat) : Int) := by
                        rw [bits_or_u64_nat _ _ (wdn_lt _ _) (Nat.lt_of_lt_of_le (dv_lt c) (by decide)), nib_or M _ (dv_lt c) hM16]
                      have Q0' : Hid (Blk (w2.putRow (w.heap.size + 1) 0 (rowW 16 M)) w.heap.size (cellsI false false 0) 29) := Q0.out.putRow_other (by omega) _ _
                      have HB3 := Lib.hid (Below_putRow (g := w.heap.size + 1) HB2.out (by omega) 0 (rowW 16 M))
                      have s1 := Q2.out.lt
                      have HROW := Lib.hid (row_nib M (dv c) (dv_lt c) hM16)
                      have HV2 : Hid (vl (L.take (k + 1)) = M + dv c) := by show _ = _; rw [HV.out]; omega
                      have HG3 := Lib.hid (HG2.out hok)
                      have hk2 : Hid (k + 1 ≤ L.length) := hlt
                      clear hM hM16
                      go_wp2_with fail
                      refine ⟨⟨k + 1, hk2.out, by first | rfl | go_num, HG3, ?_, ?_, ?_⟩, by simp [intOf] <;> omega⟩
                      · rw [HV2.out, ← HROW.out]; exact Q2.out.setCell_same 0 _
                      · exact Q0'.out.setCell_other (by simp) _
                      · exact HB3.out.setCell (by simp) _
                  · obtain rfl : k = L.length := by omega
                    have k1 : ¬ ((L.length : Nat) : Int) < (L.length : Int) := by omega
                    rw [List.take_length] at Q1 HG
                    have HNW : Hid (vl L < W16) := W16_16 _ _ HM.out (vl_lt L)
                    have r1 : wr.row? (w.heap.size + 1) 0 16 = some (rowW 16 (vl L)) := Q1.out.row?_all 16 (by simp)
                    clear hk hlt
                    go_wp2_with fail
                    refine (made_c false (vl L) HNW.out _).mono ?_
                    rintro e w1 ⟨rfl, hb1⟩
                    replace Q0 := Lib.hid (Q0.out.keep hb1)
                    have HB1 := Lib.hid (HB.out.trans (hb1.mono HB.out.size))
                    clear hb1 r1
                    have HX : Hid (prX L = WI.of (sgn false (vl L))) := by show _ = _; unfold prX; rw [HSG.out, HT.out]
                    obtain ⟨X, hX⟩ : ∃ X, WI.of (sgn false (vl L)) = X := ⟨_, rfl⟩
                    rw [hX] at HX ⊢
                    cases hov : X.ov with
                    | true =>
                      have HF : Hid (prs L = WI.of 0 ∧ prO L = false) := fail_ov (by rw [HX.out]; exact hov)
                      have p0 := (Q0.out.alloc (Obj.cells X.cells 29)).put? 0 (cellsI false false 0) (by simp) (by simp)
                      have t0 := (Q0.out.alloc (Obj.cells X.cells 29)).fits 18 (by simp)
                      have r0 := row_put p0 (n := 18) (by simp)
                      clear hX
                      go_wp2_with fail
                      exact bodyPost_row_t 18 (cellsI false false 0) (.bool false) rfl rfl rfl rfl Try.underlying29 rfl info_Int (by first | exact r0 | go_simp) ⟨by rw [HF.out.1, HF.out.2, E0.out], Below_putRow (HB1.out.alloc HB1.out.size _) (by omega) _ _⟩
                    | false =>
                      have HF : Hid (prs L = X ∧ prO L = true) := by
                        have := good_all HL.out (by rw [HT.out]; exact HT0.out) (by rw [HT.out]; exact HZ.out) (by rw [HT.out]; exact HG.out) (by rw [HX.out]; exact hov)
                        exact ⟨this.1.trans HX.out, this.2⟩
                      have p0 := (Q0.out.alloc (Obj.cells X.cells 29)).put? 0 X.cells (by simp) (by simp)
                      have t0 := (Q0.out.alloc (Obj.cells X.cells 29)).fits 18 (by simp)
                      have r0 := row_put p0 (n := 18) (by simp)
                      clear hX
                      go_wp2_with fail
                      exact bodyPost_row_t 18 X.cells (.bool true) rfl rfl rfl rfl Try.underlying29 rfl info_Int (by first | exact r0 | go_simp) ⟨by rw [HF.out.1, HF.out.2], Below_putRow (HB1.out.alloc HB1.out.size _) (by omega) _ _⟩
            · have g5 : (256 : Int) < (L.length : Int) := by omega
              have HF := Lib.hid (fail_long (L := L) (by rw [HT.out]; omega))
              clear hm
              rcases g4 with g4 | ⟨g4, g6⟩
              · go_enter Try.func36, Try.ntmps36
                go_wp2_with fail
                exact bodyPost_row_t 18 (cellsI false false 0) (.bool false) rfl rfl rfl rfl Try.underlying29 rfl info_Int (by go_simp) ⟨by rw [HF.out.1, HF.out.2, E0.out], (by repeat (first | exact Below.refl _ _ | exact Below_of_hid (by assumption) | refine Below.drew ?_ | refine below_drewN ?_ _ | refine Below_putRow ?_ (by first | omega | (simp; done) | (simp; omega) | fail) _ _ | refine Below.alloc ?_ (by first | omega | (simp; done) | (simp; omega) | fail) _ | refine Below.setCell ?_ (by first | omega | (simp; done) | (simp; omega) | fail) _ | refine Below.trans ?_ (Below.mono (by assumption) (by first | omega | (simp; done) | (simp; omega) | fail))))⟩
              · go_enter Try.func36, Try.ntmps36
                go_wp2_with fail
                exact bodyPost_row_t 18 (cellsI false false 0) (.bool false) rfl rfl rfl rfl Try.underlying29 rfl info_Int (by go_simp) ⟨by rw [HF.out.1, HF.out.2, E0.out], (by repeat (first | exact Below.refl _ _ | exact Below_of_hid (by assumption) | refine Below.drew ?_ | refine below_drewN ?_ _ | refine Below_putRow ?_ (by first | omega | (simp; done) | (simp; omega) | fail) _ _ | refine Below.alloc ?_ (by first | omega | (simp; done) | (simp; omega) | fail) _ | refine Below.setCell ?_ (by first | omega | (simp; done) | (simp; omega) | fail) _ | refine Below.trans ?_ (Below.mono (by assumption) (by first | omega | (simp; done) | (simp; omega) | fail))))⟩
  · have HF := Lib.hid (fail_far hl)
    have l1 : (300 : Int) < (L.length : Int) := by omega
    clear hl
    go_enter Try.func36, Try.ntmps36
    go_wp2_with fail
    exact bodyPost_row_t 18 (cellsI false false 0) (.bool false) rfl rfl rfl rfl Try.underlying29 rfl info_Int (by go_simp) ⟨by rw [HF.out.1, HF.out.2, E0.out], (by repeat (first | exact Below.refl _ _ | exact Below_of_hid (by assumption) | refine Below.drew ?_ | refine below_drewN ?_ _ | refine Below_putRow ?_ (by first | omega | (simp; done) | (simp; omega) | fail) _ _ | refine Below.alloc ?_ (by first | omega | (simp; done) | (simp; omega) | fail) _ | refine Below.setCell ?_ (by first | omega | (simp; done) | (simp; omega) | fail) _ | refine Below.trans ?_ (Below.mono (by assumption) (by first | omega | (simp; done) | (simp; omega) | fail))))⟩
end Go.Proofs.Ytkepdjmgmjhejaa
namespace Go.Proofs.Ytkepdjmgmjhejaa
open Go.RowKit

theorem pow_nib (i : Nat) : (16 : Nat) ^ i = 4294967296 ^ (i / 8) * 2 ^ (4 * (i % 8)) := by
  rw [p16, ← shift_split' (4 * i), show 4 * i / 32 = i / 8 by omega, show 4 * i % 32 = 4 * (i % 8) by omega]
theorem nib_small (d r : Nat) (hd : d < 16) : d * 2 ^ (4 * (r % 8)) + 2 ^ (4 * (r % 8)) ≤ 4294967296 := by
  have h : r % 8 = 0 ∨ r % 8 = 1 ∨ r % 8 = 2 ∨ r % 8 = 3 ∨ r % 8 = 4 ∨ r % 8 = 5 ∨ r % 8 = 6 ∨ r % 8 = 7 := by omega
  rcases h with h | h | h | h | h | h | h | h <;> rw [h] <;> simp <;> omega
theorem nib_digit (V d i : Nat) (hV : V < 16 ^ i) (hd : d < 16) : V / 4294967296 ^ (i / 8) % 4294967296 = V / 4294967296 ^ (i / 8) ∧ V / 4294967296 ^ (i / 8) < 2 ^ (4 * (i % 8)) := by
  have h1 : V / 4294967296 ^ (i / 8) < 2 ^ (4 * (i % 8)) := by
    rw [Nat.div_lt_iff_lt_mul (Nat.pow_pos (by decide)), Nat.mul_comm, ← pow_nib]; exact hV
  have := nib_small d i hd
  exact ⟨Nat.mod_eq_of_lt (by omega), h1⟩
theorem put_nib (V d i j : Nat) (hV : V < 16 ^ i) (hd : d < 16) :
    (d * 16 ^ i + V) / 4294967296 ^ j % 4294967296 = if j = i / 8 then V / 4294967296 ^ (i / 8) + d * 2 ^ (4 * (i % 8)) else V / 4294967296 ^ j % 4294967296 := by
  have hs := nib_small d i hd
  have h1 := (nib_digit V d i hV hd).2
  by_cases hj : j = i / 8
  · rw [if_pos hj, hj, pow_nib i, Nat.add_comm, show d * (4294967296 ^ (i / 8) * 2 ^ (4 * (i % 8))) = 4294967296 ^ (i / 8) * (d * 2 ^ (4 * (i % 8))) by grind, Nat.add_mul_div_left _ _ (Nat.pow_pos (by decide))]
    exact Nat.mod_eq_of_lt (by omega)
  · rw [if_neg hj]
    by_cases hlt : j < i / 8
    · obtain ⟨k, hk⟩ : ∃ k, i / 8 = j + 1 + k := ⟨i / 8 - (j + 1), by omega⟩
      rw [pow_nib i, hk, Nat.pow_add, Nat.pow_succ, Nat.add_comm, show d * (4294967296 ^ j * 4294967296 * 4294967296 ^ k * 2 ^ (4 * (i % 8))) = 4294967296 ^ j * (4294967296 * (d * 4294967296 ^ k * 2 ^ (4 * (i % 8)))) by grind, Nat.add_mul_div_left _ _ (Nat.pow_pos (by decide)), Nat.add_mul_mod_self_left]
    · have h2 : d * 16 ^ i + V < 4294967296 ^ j := by
        have h3 : d * 16 ^ i + V < 4294967296 ^ (i / 8) * 4294967296 := by
          have e : d * 16 ^ i + 16 ^ i = 4294967296 ^ (i / 8) * (d * 2 ^ (4 * (i % 8)) + 2 ^ (4 * (i % 8))) := by rw [pow_nib i]; grind
          have := Nat.mul_le_mul_left (4294967296 ^ (i / 8)) hs
          omega
        rw [← Nat.pow_succ] at h3
        exact Nat.lt_of_lt_of_le h3 (Nat.pow_le_pow_right (by decide) (by omega))
      rw [Nat.div_eq_of_lt h2, Nat.div_eq_of_lt (by omega)]
theorem or_nib (v x s : Nat) (h : v < 2 ^ s) : v ||| (x * 2 ^ s) = v + x * 2 ^ s := by
  rw [Nat.or_comm, Nat.mul_comm, ← Nat.two_pow_add_eq_or_of_lt h, Nat.add_comm]
theorem drop_len (L : List UInt8) : vl (L.drop (L.length - 0)) = 0 := by rw [Nat.sub_zero, List.drop_length]; rfl
theorem all_drop {L : List UInt8} {i : Nat} (hi : i < L.length) (h : (L.drop (L.length - i)).all okD = true) (hc : okD (L[L.length - 1 - i]'(by omega)) = true) : (L.drop (L.length - (i + 1))).all okD = true := by
  rw [List.drop_eq_getElem_cons (by omega), List.all_cons, show L.length - (i + 1) + 1 = L.length - i by omega, h]
  simp only [show L.length - (i + 1) = L.length - 1 - i by omega, hc]; rfl
theorem vl_back {L : List UInt8} {i : Nat} (hi : i < L.length) : vl (L.drop (L.length - (i + 1))) = dv (L[L.length - 1 - i]'(by omega)) * 16 ^ i + vl (L.drop (L.length - i)) := by
  rw [vl_drop L (L.length - (i + 1)) (by omega), show L.length - (i + 1) + 1 = L.length - i by omega, show L.length - (L.length - i) = i by omega]
  simp only [show L.length - (i + 1) = L.length - 1 - i by omega]
theorem vl_drop_lt {L : List UInt8} {i : Nat} (hi : i ≤ L.length) : vl (L.drop (L.length - i)) < 16 ^ i := by
  have := vl_lt (L.drop (L.length - i))
  rwa [List.length_drop, show L.length - (L.length - i) = i by omega] at this
theorem zero_big (w : World) : BigIs w (.agg #[.bool false, .bool false, .slice none 0 0]) (WI.of 0) := by
  have h : (WI.of 0).v = some 0 := WI.of_v (by rw [show (0 : Int).natAbs = 0 from rfl]; exact lim_pos)
  have h1 : (WI.of 0).ng = false := by unfold WI.ng; rw [h]; rfl
  have h2 : (WI.of 0).ov = false := by unfold WI.ov; rw [h]; rfl
  have h3 : (WI.of 0).sz = 0 := by unfold WI.sz; rw [h]; rfl
  refine ⟨.slice none 0 0, by rw [h1, h2], ?_⟩
  rw [h3, dg_zero]; exact Rd.nil _
set_option maxRecDepth 100000 in
set_option maxHeartbeats 2000000 in
/-- Parse. -/
theorem parse_r (L : List UInt8) (w : World) :
    Calls Try.prog 37 #[str L] w fun e w' => (∃ v, e = .returned (.tuple #[v, .bool (prO L)]) ∧ BigIs w' v (prs L)) ∧ Below w.heap.size w w' := by
  obtain ⟨i0, hi, hz0, hz1, hz2⟩ := info_parts infoU32
  by_cases hl : L.length ≤ 300
  · have l1 : ¬ (300 : Int) < (L.length : Int) := by omega
    have HL := Lib.hid hl
    obtain ⟨D, hT⟩ : ∃ D, prT L = D := ⟨_, rfl⟩
    have HT := Lib.hid hT
    have HDL : Hid (D.length ≤ 300) := by
      show _ ≤ _
      rw [← hT]; unfold prT; split
      · rw [List.length_tail]; omega
      · exact hl
    obtain ⟨sg, hsg⟩ : ∃ sg, prN L = sg := ⟨_, rfl⟩
    have HSG := Lib.hid hsg
    by_cases h0 : L = []
    · have l2 : ¬ (0 : Int) < (L.length : Int) := by rw [h0]; decide
      have e : sg = false := by rw [← hsg, h0]; rfl
      subst e
      have e : L = D := by rw [← hT, h0]; rfl
      subst e
      clear h0 hT hsg
      obtain ⟨n8, hn8⟩ : ∃ n, L.length / 8 = n := ⟨_, rfl⟩
      have td : (L.length : Int).tdiv 8 = (n8 : Int) := by rw [Int.tdiv_eq_ediv_of_nonneg (by omega)]; omega
      have hn300 : n8 ≤ 300 := by have := HDL.out; omega
      have HN8 : Hid (L.length < 8 * (n8 + 1)) := by show _ < _; omega
      have hm := run_make_row (P := Try.prog) 30 108 i0 (.int .u32 0) Try.underlying30 hi hz0 hz1 rfl .i64 .i64 (n8 + 1) (by rw [hz2]; omega) (by omega)
      push_cast at hm
      clear hn8
      go_enter Try.func37, Try.ntmps37
      go_wp2_with fail
      clear hm
      have hr0 := Lib.hid (World.rowIs_made (w.alloc (Obj.cells #[.bool false, .bool false, .slice none 0 0] 32)) (.int .u32 0) (n8 + 1) 108)
      go_loopw [34] (fun t34 wr => ∃ i : Nat, i ≤ L.length ∧ t34 = .int .i64 i ∧ Hid ((L.drop (L.length - i)).all okD = true) ∧ Hid (wr.rowIs (w.heap.size + 1) 108 (n8 + 1) (fun j => .int .u32 ((vl (L.drop (L.length - i)) / 4294967296 ^ j % 4294967296 : Nat) : Int))) ∧ Hid (Blk wr w.heap.size #[.bool false, .bool false, .slice none 0 0] 32) ∧ Hid (Below w.heap.size w wr)) (fun t34 _ => L.length - (intOf t34).toNat)
      case atStart =>
        refine ⟨0, Nat.zero_le _, rfl, by rw [Nat.sub_zero, List.drop_length]; rfl, ?_, (Blk.new _ _ _).alloc _, (by repeat (first | exact Below.refl _ _ | exact Below_of_hid (by assumption) | refine Below.drew ?_ | refine below_drewN ?_ _ | refine Below_putRow ?_ (by first | omega | (simp; done) | (simp; omega) | fail) _ _ | refine Below.alloc ?_ (by first | omega | (simp; done) | (simp; omega) | fail) _ | refine Below.setCell ?_ (by first | omega | (simp; done) | (simp; omega) | fail) _ | refine Below.trans ?_ (Below.mono (by assumption) (by first | omega | (simp; done) | (simp; omega) | fail))))⟩
        rw [drop_len]
        have := hr0.out.congr (g := fun j => .int .u32 ((0 / 4294967296 ^ j % 4294967296 : Nat) : Int)) (fun j _ => by simp)
        rw [show (w.alloc (Obj.cells #[.bool false, .bool false, .slice none 0 0] 32)).heap.size = w.heap.size + 1 by simp] at this
        exact this
      case round =>
        clear hr0
        obtain ⟨i, hi', rfl, HG, HRW, Q0, HB⟩ := hrel
        have hbs := HB.out.size
        have q0 : wr.cell? ⟨w.heap.size, 0, none⟩ = some (.bool false) := Q0.out.cell (i := 0) rfl
        have q1 : wr.cell? ⟨w.heap.size, 1, none⟩ = some (.bool false) := Q0.out.cell (i := 1) rfl
        have q2 : wr.cell? ⟨w.heap.size, 2, none⟩ = some (.slice none 0 0) := Q0.out.cell (i := 2) rfl
        have qf := Q0.out.frozen
        have qt := Q0.out.fits 3 (by simp)
        have ql := Q0.out.lt
        by_cases hlt : i < L.length
        · exfalso; omega
        · obtain rfl : i = L.length := by omega
          have k1 : ¬ ((L.length : Nat) : Int) < (L.length : Int) := by omega
          rw [Nat.sub_self, List.drop_zero] at HRW HG
          have hrd := Lib.hid (Rd.row HRW.out (by omega) (fun j _ => Nat.mod_lt _ (by decide)))
          have HVAL : Hid (nv ((List.range (n8 + 1)).map fun j => vl L / 4294967296 ^ j % 4294967296) = vl L) := by
            show _ = _
            rw [nv_range, nvf_of_digits _ (vl L) _ (fun _ _ => rfl)]
            refine Nat.mod_eq_of_lt (Nat.lt_of_lt_of_le (vl_lt L) ?_)
            rw [p16, show (4294967296 : Nat) = 2 ^ 32 from rfl, ← Nat.pow_mul]
            exact Nat.pow_le_pow_right (by decide) (by have := HN8.out; omega)
          obtain ⟨X, hX⟩ : ∃ X, WI.of (sgn false (vl L)) = X := ⟨_, rfl⟩
          have HX : Hid (prX L = X) := by show _ = _; unfold prX; rw [HSG.out, HT.out, hX]
          have HMX : Hid (WI.of (sgn false (nv ((List.range (n8 + 1)).map fun j => vl L / 4294967296 ^ j % 4294967296))) = X) := by show _ = _; rw [HVAL.out, hX]
          clear hi' hlt hX
          go_wp2_with fail
          refine (made_x false _ _ _ X HMX (by first | exact hrd.out | (have := hrd.out; push_cast at this; exact this))).mono ?_
          rintro e w1 ⟨⟨v, rfl, hv⟩, hb1⟩
          obtain ⟨A1, c1, rfl, hs1⟩ := hv.opened
          have HS1 := Lib.hid hs1
          have Q0' := Lib.hid (Q0.out.keep hb1)
          have HB1 := Lib.hid (HB.out.trans (hb1.mono HB.out.size))
          clear hv hs1 q0 q1 q2 qf qt ql hrd HRW
          have q0 : w1.cell? ⟨w.heap.size, 0, none⟩ = some (.bool false) := Q0'.out.cell (i := 0) rfl
          have q1 : w1.cell? ⟨w.heap.size, 1, none⟩ = some (.bool false) := Q0'.out.cell (i := 1) rfl
          have q2 : w1.cell? ⟨w.heap.size, 2, none⟩ = some (.slice none 0 0) := Q0'.out.cell (i := 2) rfl
          have qf := Q0'.out.frozen
          have qt := Q0'.out.fits 3 (by simp)
          have ql := Q0'.out.lt
          cases hov : X.ov with
          | true =>
            have HF : Hid (prs L = WI.of 0 ∧ prO L = false) := fail_ov (by rw [HX.out]; exact hov)
            go_wp2_with fail
            exact bodyPost_row_t 3 #[.bool false, .bool false, .slice none 0 0] (.bool false) rfl rfl rfl rfl Try.underlying32 rfl (by kernel_rfl) (row_of_cells 2 _ rfl (by intro i hi; rcases i with _ | _ | _ | i; (go_simp); (go_simp); (go_simp); exact absurd hi (by omega))) ⟨⟨_, by rw [HF.out.2], by rw [HF.out.1]; exact zero_big _⟩, (by repeat (first | exact Below.refl _ _ | exact Below_of_hid (by assumption) | refine Below.drew ?_ | refine below_drewN ?_ _ | refine Below_putRow ?_ (by first | omega | (simp; done) | (simp; omega) | fail) _ _ | refine Below.alloc ?_ (by first | omega | (simp; done) | (simp; omega) | fail) _ | refine Below.setCell ?_ (by first | omega | (simp; done) | (simp; omega) | fail) _ | refine Below.trans ?_ (Below.mono (by assumption) (by first | omega | (simp; done) | (simp; omega) | fail))))⟩
          | false =>
            have HOV : Hid (X.ov = false) := hov
            go_wp2_with fail
            refine (text_r _ X _ (by rw [show (#[.bool X.ng, .bool false, .slice A1 (dg X.sz).length c1] : Array Value) = #[.bool X.ng, .bool X.ov, .slice A1 (dg X.sz).length c1] by rw [hov]]; exact BigIs.mk (HS1.out.below (by repeat (first | exact Below.refl _ _ | exact Below_of_hid (by assumption) | refine Below.drew ?_ | refine below_drewN ?_ _ | refine Below_putRow ?_ (by first | omega | (simp; done) | (simp; omega) | fail) _ _ | refine Below.alloc ?_ (by first | omega | (simp; done) | (simp; omega) | fail) _ | refine Below.setCell ?_ (by first | omega | (simp; done) | (simp; omega) | fail) _ | refine Below.trans ?_ (Below.mono (by assumption) (by first | omega | (simp; done) | (simp; omega) | fail))))))).mono ?_
            rintro e w2 ⟨rfl, hb2⟩
            have z_w2 := hb2.size; (try simp at z_w2); obtain ⟨y_w2_0_0, c_w2_0_0, f_w2_0_0, r_w2_0_0, t_w2_0_0, p_w2_0_0⟩ := bk hb2 (w.heap.size) (by first | omega | (simp; done) | (simp; omega) | fail); obtain ⟨y_w2_1_0, c_w2_1_0, f_w2_1_0, r_w2_1_0, t_w2_1_0, p_w2_1_0⟩ := bk hb2 (w1.heap.size) (by first | omega | (simp; done) | (simp; omega) | fail)
            by_cases htx : txt X.v = L
            · have HF : Hid (prs L = X ∧ prO L = true) := by
                have := good_text HL.out (by rw [HT.out]; exact HG.out) (by rw [HX.out]; exact hov) (by rw [HX.out]; exact htx)
                exact ⟨this.1.trans HX.out, this.2⟩
              have htb : (txt X.v == L) = true := by simpa using htx
              have HS2 := Lib.hid (HS1.out.below (show Below w1.heap.size w1 w2 from (by repeat (first | exact Below.refl _ _ | exact Below_of_hid (by assumption) | refine Below.drew ?_ | refine below_drewN ?_ _ | refine Below_putRow ?_ (by first | omega | (simp; done) | (simp; omega) | fail) _ _ | refine Below.alloc ?_ (by first | omega | (simp; done) | (simp; omega) | fail) _ | refine Below.setCell ?_ (by first | omega | (simp; done) | (simp; omega) | fail) _ | refine Below.trans ?_ (Below.mono (by assumption) (by first | omega | (simp; done) | (simp; omega) | fail))))))
              clear htx hov
              go_wp2_with fail
              exact bodyPost_row_t 3 #[.bool X.ng, .bool false, .slice A1 (dg X.sz).length c1] (.bool true) rfl rfl rfl rfl Try.underlying32 rfl (by kernel_rfl) (row_of_cells 2 _ rfl (by intro i hi; rcases i with _ | _ | _ | i; (go_simp); (go_simp); (go_simp); exact absurd hi (by omega))) ⟨⟨_, by rw [HF.out.2], by rw [HF.out.1, ← HOV.out]; exact BigIs.mk (HS2.out.res (by go_simp) (by go_simp) (by go_simp) _ _ _)⟩, (by repeat (first | exact Below.refl _ _ | exact Below_of_hid (by assumption) | refine Below.drew ?_ | refine below_drewN ?_ _ | refine Below_putRow ?_ (by first | omega | (simp; done) | (simp; omega) | fail) _ _ | refine Below.alloc ?_ (by first | omega | (simp; done) | (simp; omega) | fail) _ | refine Below.setCell ?_ (by first | omega | (simp; done) | (simp; omega) | fail) _ | refine Below.trans ?_ (Below.mono (by assumption) (by first | omega | (simp; done) | (simp; omega) | fail))))⟩
            · have HF : Hid (prs L = WI.of 0 ∧ prO L = false) := fail_text (by rw [HT.out]; exact HG.out) (by rw [HX.out]; exact hov) (by rw [HX.out]; exact htx)
              have htb : (txt X.v == L) = false := by simpa using htx
              clear htx hov
              go_wp2_with fail
              exact bodyPost_row_t 3 #[.bool false, .bool false, .slice none 0 0] (.bool false) rfl rfl rfl rfl Try.underlying32 rfl (by kernel_rfl) (row_of_cells 2 _ rfl (by intro i hi; rcases i with _ | _ | _ | i; (go_simp); (go_simp); (go_simp); exact absurd hi (by omega))) ⟨⟨_, by rw [HF.out.2], by rw [HF.out.1]; exact zero_big _⟩, (by repeat (first | exact Below.refl _ _ | exact Below_of_hid (by assumption) | refine Below.drew ?_ | refine below_drewN ?_ _ | refine Below_putRow ?_ (by first | omega | (simp; done) | (simp; omega) | fail) _ _ | refine Below.alloc ?_ (by first | omega | (simp; done) | (simp; omega) | fail) _ | refine Below.setCell ?_ (by first | omega | (simp; done) | (simp; omega) | fail) _ | refine Below.trans ?_ (Below.mono (by assumption) (by first | omega | (simp; done) | (simp; omega) | fail))))⟩
    · have hp := List.length_pos_iff.2 h0
      have l2 : (0 : Int) < (L.length : Int) := by omega
      have ix0 : ∀ w, (Instr.index 9 (str L) (.int .i64 0)).run Try.prog w = .ok (.int .u8 (L[0]'hp).toNat) w := fun w => idx_str L 0 0 rfl _ w
      have hhd : L.head? = some (L[0]'hp) := by rw [List.head?_eq_getElem?, List.getElem?_eq_getElem]
      by_cases h45 : L.head? = some 45
      · have g1 : (L[0]'hp).toNat = 45 := by rw [h45] at hhd; have := Option.some.inj hhd; rw [← this]; rfl
        rw [g1] at ix0
        have hs : ∀ w, (Instr.slice 9 (str L) (some (.int .i64 1)) none none).run Try.prog w = .ok (str D) w := fun w => by
          cases L with
          | nil => exact absurd rfl h0
          | cons c t => rw [← hT]; unfold prT; rw [if_pos h45]; exact slice_tail c t w
        have e : sg = true := by rw [← hsg]; unfold prN; exact decide_eq_true h45
        subst e
        clear hhd g1 hl h0 h45 hT hsg hp
        obtain ⟨n8, hn8⟩ : ∃ n, D.length / 8 = n := ⟨_, rfl⟩
        have td : (D.length : Int).tdiv 8 = (n8 : Int) := by rw [Int.tdiv_eq_ediv_of_nonneg (by omega)]; omega
        have hn300 : n8 ≤ 300 := by have := HDL.out; omega
        have HN8 : Hid (D.length < 8 * (n8 + 1)) := by show _ < _; omega
        have hm := run_make_row (P := Try.prog) 30 108 i0 (.int .u32 0) Try.underlying30 hi hz0 hz1 rfl .i64 .i64 (n8 + 1) (by rw [hz2]; omega) (by omega)
        push_cast at hm
        clear hn8
        go_enter Try.func37, Try.ntmps37
        go_wp2_with fail
        clear hm
        have hr0 := Lib.hid (World.rowIs_made (w.alloc (Obj.cells #[.bool false, .bool false, .slice none 0 0] 32)) (.int .u32 0) (n8 + 1) 108)
        go_loopw [34] (fun t34 wr => ∃ i : Nat, i ≤ D.length ∧ t34 = .int .i64 i ∧ Hid ((D.drop (D.length - i)).all okD = true) ∧ Hid (wr.rowIs (w.heap.size + 1) 108 (n8 + 1) (fun j => .int .u32 ((vl (D.drop (D.length - i)) / 4294967296 ^ j % 4294967296 : Nat) : Int))) ∧ Hid (Blk wr w.heap.size #[.bool false, .bool false, .slice none 0 0] 32) ∧ Hid (Below w.heap.size w wr)) (fun t34 _ => D.length - (intOf t34).toNat)
        case atStart =>
          refine ⟨0, Nat.zero_le _, rfl, by rw [Nat.sub_zero, List.drop_length]; rfl, ?_, (Blk.new _ _ _).alloc _, (by repeat (first | exact Below.refl _ _ | exact Below_of_hid (by assumption) | refine Below.drew ?_ | refine below_drewN ?_ _ | refine Below_putRow ?_ (by first | omega | (simp; done) | (simp; omega) | fail) _ _ | refine Below.alloc ?_ (by first | omega | (simp; done) | (simp; omega) | fail) _ | refine Below.setCell ?_ (by first | omega | (simp; done) | (simp; omega) | fail) _ | refine Below.trans ?_ (Below.mono (by assumption) (by first | omega | (simp; done) | (simp; omega) | fail))))⟩
          rw [drop_len]
          have := hr0.out.congr (g := fun j => .int .u32 ((0 / 4294967296 ^ j % 4294967296 : Nat) : Int)) (fun j _ => by simp)
          rw [show (w.alloc (Obj.cells #[.bool false, .bool false, .slice none 0 0] 32)).heap.size = w.heap.size + 1 by simp] at this
          exact this
        case round =>
          clear hr0
          obtain ⟨i, hi', rfl, HG, HRW, Q0, HB⟩ := hrel
          have hbs := HB.out.size
          have q0 : wr.cell? ⟨w.heap.size, 0, none⟩ = some (.bool false) := Q0.out.cell (i := 0) rfl
          have q1 : wr.cell? ⟨w.heap.size, 1, none⟩ = some (.bool false) := Q0.out.cell (i := 1) rfl
          have q2 : wr.cell? ⟨w.heap.size, 2, none⟩ = some (.slice none 0 0) := Q0.out.cell (i := 2) rfl
          have qf := Q0.out.frozen
          have qt := Q0.out.fits 3 (by simp)
          have ql := Q0.out.lt
          by_cases hlt : i < D.length
          · have k1 : (i : Int) < (D.length : Int) := by omega
            have ixk : ∀ w, (Instr.index 9 (str D) (.int .i64 ((D.length : Int) - 1 - (i : Int)))).run Try.prog w = .ok (.int .u8 (D[D.length - 1 - i]'(by omega)).toNat) w := fun w => idx_str D (D.length - 1 - i) _ (by omega) (by omega) w
            have HFD : Hid (okD (D[D.length - 1 - i]'(by omega)) = false → prs L = WI.of 0 ∧ prO L = false) := fun h => fail_dig (L := L) (i := D.length - 1 - i) (by rw [HT.out]; omega) (by simp only [HT.out]; exact h)
            have HV := Lib.hid (vl_back hlt)
            have HG2 : Hid (okD (D[D.length - 1 - i]'(by omega)) = true → (D.drop (D.length - (i + 1))).all okD = true) := fun h => all_drop hlt HG.out h
            have HVL := Lib.hid (vl_drop_lt hi')
            obtain ⟨c, hc⟩ : ∃ c, D[D.length - 1 - i]'(by omega) = c := ⟨_, rfl⟩
            rw [hc] at ixk HFD HV HG2
            obtain ⟨V, hV⟩ : ∃ V, vl (D.drop (D.length - i)) = V := ⟨_, rfl⟩
            rw [hV] at HV HRW HVL
            obtain ⟨q, hq⟩ : ∃ q, i / 8 = q := ⟨_, rfl⟩
            obtain ⟨s, hs⟩ : ∃ s, 4 * (i % 8) = s := ⟨_, rfl⟩
            have tq : (i : Int).tdiv 8 = (q : Int) := by rw [Int.tdiv_eq_ediv_of_nonneg (by omega)]; omega
            have tr : (4 : Int) * (i : Int).tmod 8 = (s : Int) := by rw [Int.tmod_eq_emod_of_nonneg (by omega)]; omega
            have hs32 : s < 32 := by omega
            have hq8 : q < n8 + 1 := by have := HN8.out; omega
            have hck := HRW.out.cell hq8
            have hfk := HRW.out.frozen
            have i300 : i < 300 := by have := HDL.out; omega
            have d300 : D.length ≤ 300 := HDL.out
            have HQ := Lib.hid (And.intro hq hs)
            have hq300 : q < 300 := by omega
            clear hc hV hq hs
            have hclt : c.toNat < 256 := c.toNat_lt
            by_cases hok : okD c = true
            · have HND := nib_digit V (dv c) i HVL.out (dv_lt c)
              have HSM := nib_small (dv c) i (dv_lt c)
              rw [HQ.out.1, HQ.out.2] at HND
              rw [HQ.out.2] at HSM
              have HP : Hid (∀ j, (dv c * 16 ^ i + V) / 4294967296 ^ j % 4294967296 = if j = q then V / 4294967296 ^ q % 4294967296 + dv c * 2 ^ s else V / 4294967296 ^ j % 4294967296) := fun j => by
                rw [put_nib V (dv c) i j HVL.out (dv_lt c), HQ.out.1, HQ.out.2, HND.1]
              have HG3 := Lib.hid (HG2.out hok)
              obtain ⟨v, hv⟩ : ∃ v, V / 4294967296 ^ q % 4294967296 = v := ⟨_, rfl⟩
              rw [hv] at hck HP
              have hvs : v < 2 ^ s := by rw [← hv, HND.1]; exact HND.2
              have HVS := Lib.hid hvs
              clear HND
              obtain ⟨d, hd⟩ : ∃ d, dv c = d := ⟨_, rfl⟩
              rw [hd] at HP HSM HV
              have hv32 : v < 4294967296 := by omega
              have hor : bits .or .u32 (v : Int) ((d : Int) * 2 ^ (4 * (i % 8)) % 4294967296) = ((v + d * 2 ^ s : Nat) : Int) := by
                rw [HQ.out.2, show ((d : Int) * 2 ^ s) = ((d * 2 ^ s : Nat) : Int) by push_cast; rfl, show ((d * 2 ^ s : Nat) : Int) % 4294967296 = ((d * 2 ^ s : Nat) : Int) by omega, bits_or_u32_nat _ _ hv32 (by omega), or_nib _ _ _ hvs]
              have HW := Lib.hid hor
              have HNEW : Hid (∀ j, vl (D.drop (D.length - (i + 1))) / 4294967296 ^ j % 4294967296 = if j = q then v + d * 2 ^ s else V / 4294967296 ^ j % 4294967296) := fun j => by rw [HV.out]; exact HP.out j
              clear HP HSM hv hor hvs
              by_cases ha : 48 ≤ c.toNat ∧ c.toNat ≤ 57
              · have hdd : d = c.toNat - 48 := by rw [← hd]; exact (okD_low ha).2
                obtain ⟨n, hn⟩ : ∃ n, c.toNat = n := ⟨_, rfl⟩
                rw [hn] at ixk ha hclt hdd
                have y1 : (48 : Int) ≤ (n : Int) := by omega
                have y2 : (n : Int) ≤ 57 := by omega
                have y3 : IntKind.u8.wrap ((n : Int) - 48) = (d : Int) := by rw [IntKind.wrap_u8]; omega
                have y4 : IntKind.u32.wrap (d : Int) = (d : Int) := by rw [IntKind.wrap_u32]; omega
                clear ha hdd hn hd hok
                go_wp2_with fail
                rw [HW.out]
                refine ⟨⟨i + 1, by omega, by first | rfl | go_num, HG3, ?_, ?_, ?_⟩, by simp [intOf] <;> omega⟩
                · refine Lib.hid ((HRW.out.set q _).congr (fun j _ => ?_))
                  rw [HNEW.out j]
                  by_cases e : j = q
                  · rw [if_pos e, if_pos e]
                  · rw [if_neg e, if_neg e]
                · exact Q0.out.setCell_other (by simp) _
                · exact HB.out.setCell (by simp) _
              · have hb : 97 ≤ c.toNat ∧ c.toNat ≤ 102 := by
                  by_cases hb : 97 ≤ c.toNat ∧ c.toNat ≤ 102
                  · exact hb
                  · have := (okD_none ha hb).1; rw [hok] at this; cases this
                have hdd : d = c.toNat - 87 := by rw [← hd]; exact (okD_high hb).2
                obtain ⟨n, hn⟩ : ∃ n, c.toNat = n := ⟨_, rfl⟩
                rw [hn] at ixk ha hb hclt hdd
                have y1 : (48 : Int) ≤ (n : Int) := by omega
                have y2 : ¬ (n : Int) ≤ 57 := by omega
                have y5 : (97 : Int) ≤ (n : Int) := by omega
                have y6 : (n : Int) ≤ 102 := by omega
                have y3 : IntKind.u8.wrap ((n : Int) - 97) = ((n - 97 : Nat) : Int) := by rw [IntKind.wrap_u8]; omega
                have y7 : IntKind.u32.wrap ((n - 97 : Nat) : Int) = ((n - 97 : Nat) : Int) := by rw [IntKind.wrap_u32]; omega
                have y4 : IntKind.u32.wrap (((n - 97 : Nat) : Int) + 10) = (d : Int) := by rw [IntKind.wrap_u32]; omega
                clear ha hb hdd hn hd hok
                go_wp2_with fail
                rw [HW.out]
                refine ⟨⟨i + 1, by omega, by first | rfl | go_num, HG3, ?_, ?_, ?_⟩, by simp [intOf] <;> omega⟩
                · refine Lib.hid ((HRW.out.set q _).congr (fun j _ => ?_))
                  rw [HNEW.out j]
                  by_cases e : j = q
                  · rw [if_pos e, if_pos e]
                  · rw [if_neg e, if_neg e]
                · exact Q0.out.setCell_other (by simp) _
                · exact HB.out.setCell (by simp) _
            · have hok' : okD c = false := by simpa using hok
              have HF := Lib.hid (HFD.out hok')
              have ha : ¬ (48 ≤ c.toNat ∧ c.toNat ≤ 57) := fun h => by rw [(okD_low h).1] at hok'; cases hok'
              have hb : ¬ (97 ≤ c.toNat ∧ c.toNat ≤ 102) := fun h => by rw [(okD_high h).1] at hok'; cases hok'
              obtain ⟨n, hn⟩ : ∃ n, c.toNat = n := ⟨_, rfl⟩
              rw [hn] at ixk ha hb hclt
              have h3 : n < 48 ∨ (57 < n ∧ n < 97) ∨ 102 < n := by omega
              clear ha hb hok hok' hn
              rcases h3 with h | ⟨h, h'⟩ | h
              · have y1 : ¬ (48 : Int) ≤ (n : Int) := by omega
                have y2 : ¬ (97 : Int) ≤ (n : Int) := by omega
                clear h
                go_wp2_with fail
                exact bodyPost_row_t 3 #[.bool false, .bool false, .slice none 0 0] (.bool false) rfl rfl rfl rfl Try.underlying32 rfl (by kernel_rfl) (row_of_cells 2 _ rfl (by intro i hi; rcases i with _ | _ | _ | i; (go_simp); (go_simp); (go_simp); exact absurd hi (by omega))) ⟨⟨_, by rw [HF.out.2], by rw [HF.out.1]; exact zero_big _⟩, ((HB.out.setCell (Nat.le_refl _) _).setCell (Nat.le_refl _) _).setCell (Nat.le_refl _) _⟩
              · have y1 : (48 : Int) ≤ (n : Int) := by omega
                have y3 : ¬ (n : Int) ≤ 57 := by omega
                have y2 : ¬ (97 : Int) ≤ (n : Int) := by omega
                clear h h'
                go_wp2_with fail
                exact bodyPost_row_t 3 #[.bool false, .bool false, .slice none 0 0] (.bool false) rfl rfl rfl rfl Try.underlying32 rfl (by kernel_rfl) (row_of_cells 2 _ rfl (by intro i hi; rcases i with _ | _ | _ | i; (go_simp); (go_simp); (go_simp); exact absurd hi (by omega))) ⟨⟨_, by rw [HF.out.2], by rw [HF.out.1]; exact zero_big _⟩, ((HB.out.setCell (Nat.le_refl _) _).setCell (Nat.le_refl _) _).setCell (Nat.le_refl _) _⟩
              · have y1 : (48 : Int) ≤ (n : Int) := by omega
                have y3 : ¬ (n : Int) ≤ 57 := by omega
                have y2 : (97 : Int) ≤ (n : Int) := by omega
                have y4 : ¬ (n : Int) ≤ 102 := by omega
                clear h
                go_wp2_with fail
                exact bodyPost_row_t 3 #[.bool false, .bool false, .slice none 0 0] (.bool false) rfl rfl rfl rfl Try.underlying32 rfl (by kernel_rfl) (row_of_cells 2 _ rfl (by intro i hi; rcases i with _ | _ | _ | i; (go_simp); (go_simp); (go_simp); exact absurd hi (by omega))) ⟨⟨_, by rw [HF.out.2], by rw [HF.out.1]; exact zero_big _⟩, ((HB.out.setCell (Nat.le_refl _) _).setCell (Nat.le_refl _) _).setCell (Nat.le_refl _) _⟩
          · obtain rfl : i = D.length := by omega
            have k1 : ¬ ((D.length : Nat) : Int) < (D.length : Int) := by omega
            rw [Nat.sub_self, List.drop_zero] at HRW HG
            have hrd := Lib.hid (Rd.row HRW.out (by omega) (fun j _ => Nat.mod_lt _ (by decide)))
            have HVAL : Hid (nv ((List.range (n8 + 1)).map fun j => vl D / 4294967296 ^ j % 4294967296) = vl D) := by
              show _ = _
              rw [nv_range, nvf_of_digits _ (vl D) _ (fun _ _ => rfl)]
              refine Nat.mod_eq_of_lt (Nat.lt_of_lt_of_le (vl_lt D) ?_)
              rw [p16, show (4294967296 : Nat) = 2 ^ 32 from rfl, ← Nat.pow_mul]
              exact Nat.pow_le_pow_right (by decide) (by have := HN8.out; omega)
            obtain ⟨X, hX⟩ : ∃ X, WI.of (sgn true (vl D)) = X := ⟨_, rfl⟩
            have HX : Hid (prX L = X) := by show _ = _; unfold prX; rw [HSG.out, HT.out, hX]
            have HMX : Hid (WI.of (sgn true (nv ((List.range (n8 + 1)).map fun j => vl D / 4294967296 ^ j % 4294967296))) = X) := by show _ = _; rw [HVAL.out, hX]
            clear hi' hlt hX
            go_wp2_with fail
            refine (made_x true _ _ _ X HMX (by first | exact hrd.out | (have := hrd.out; push_cast at this; exact this))).mono ?_
            rintro e w1 ⟨⟨v, rfl, hv⟩, hb1⟩
            obtain ⟨A1, c1, rfl, hs1⟩ := hv.opened
            have HS1 := Lib.hid hs1
            have Q0' := Lib.hid (Q0.out.keep hb1)
            have HB1 := Lib.hid (HB.out.trans (hb1.mono HB.out.size))
            clear hv hs1 q0 q1 q2 qf qt ql hrd HRW
            have q0 : w1.cell? ⟨w.heap.size, 0, none⟩ = some (.bool false) := Q0'.out.cell (i := 0) rfl
            have q1 : w1.cell? ⟨w.heap.size, 1, none⟩ = some (.bool false) := Q0'.out.cell (i := 1) rfl
            have q2 : w1.cell? ⟨w.heap.size, 2, none⟩ = some (.slice none 0 0) := Q0'.out.cell (i := 2) rfl
            have qf := Q0'.out.frozen
            have qt := Q0'.out.fits 3 (by simp)
            have ql := Q0'.out.lt
            cases hov : X.ov with
            | true =>
              have HF : Hid (prs L = WI.of 0 ∧ prO L = false) := fail_ov (by rw [HX.out]; exact hov)
              go_wp2_with fail
              exact bodyPost_row_t 3 #[.bool false, .bool false, .slice none 0 0] (.bool false) rfl rfl rfl rfl Try.underlying32 rfl (by kernel_rfl) (row_of_cells 2 _ rfl (by intro i hi; rcases i with _ | _ | _ | i; (go_simp); (go_simp); (go_simp); exact absurd hi (by omega))) ⟨⟨_, by rw [HF.out.2], by rw [HF.out.1]; exact zero_big _⟩, (by repeat (first | exact Below.refl _ _ | exact Below_of_hid (by assumption) | refine Below.drew ?_ | refine below_drewN ?_ _ | refine Below_putRow ?_ (by first | omega | (simp; done) | (simp; omega) | fail) _ _ | refine Below.alloc ?_ (by first | omega | (simp; done) | (simp; omega) | fail) _ | refine Below.setCell ?_ (by first | omega | (simp; done) | (simp; omega) | fail) _ | refine Below.trans ?_ (Below.mono (by assumption) (by first | omega | (simp; done) | (simp; omega) | fail))))⟩
            | false =>
              have HOV : Hid (X.ov = false) := hov
              go_wp2_with fail
              refine (text_r _ X _ (by rw [show (#[.bool X.ng, .bool false, .slice A1 (dg X.sz).length c1] : Array Value) = #[.bool X.ng, .bool X.ov, .slice A1 (dg X.sz).length c1] by rw [hov]]; exact BigIs.mk (HS1.out.below (by repeat (first | exact Below.refl _ _ | exact Below_of_hid (by assumption) | refine Below.drew ?_ | refine below_drewN ?_ _ | refine Below_putRow ?_ (by first | omega | (simp; done) | (simp; omega) | fail) _ _ | refine Below.alloc ?_ (by first | omega | (simp; done) | (simp; omega) | fail) _ | refine Below.setCell ?_ (by first | omega | (simp; done) | (simp; omega) | fail) _ | refine Below.trans ?_ (Below.mono (by assumption) (by first | omega | (simp; done) | (simp; omega) | fail))))))).mono ?_
              rintro e w2 ⟨rfl, hb2⟩
              have z_w2 := hb2.size; (try simp at z_w2); obtain ⟨y_w2_0_0, c_w2_0_0, f_w2_0_0, r_w2_0_0, t_w2_0_0, p_w2_0_0⟩ := bk hb2 (w.heap.size) (by first | omega | (simp; done) | (simp; omega) | fail); obtain ⟨y_w2_1_0, c_w2_1_0, f_w2_1_0, r_w2_1_0, t_w2_1_0, p_w2_1_0⟩ := bk hb2 (w1.heap.size) (by first | omega | (simp; done) | (simp; omega) | fail)
              by_cases htx : txt X.v = L
              · have HF : Hid (prs L = X ∧ prO L = true) := by
                  have := good_text HL.out (by rw [HT.out]; exact HG.out) (by rw [HX.out]; exact hov) (by rw [HX.out]; exact htx)
                  exact ⟨this.1.trans HX.out, this.2⟩
                have htb : (txt X.v == L) = true := by simpa using htx
                have HS2 := Lib.hid (HS1.out.below (show Below w1.heap.size w1 w2 from (by repeat (first | exact Below.refl _ _ | exact Below_of_hid (by assumption) | refine Below.drew ?_ | refine below_drewN ?_ _ | refine Below_putRow ?_ (by first | omega | (simp; done) | (simp; omega) | fail) _ _ | refine Below.alloc ?_ (by first | omega | (simp; done) | (simp; omega) | fail) _ | refine Below.setCell ?_ (by first | omega | (simp; done) | (simp; omega) | fail) _ | refine Below.trans ?_ (Below.mono (by assumption) (by first | omega | (simp; done) | (simp; omega) | fail))))))
                clear htx hov
                go_wp2_with fail
                exact bodyPost_row_t 3 #[.bool X.ng, .bool false, .slice A1 (dg X.sz).length c1] (.bool true) rfl rfl rfl rfl Try.underlying32 rfl (by kernel_rfl) (row_of_cells 2 _ rfl (by intro i hi; rcases i with _ | _ | _ | i; (go_simp); (go_simp); (go_simp); exact absurd hi (by omega))) ⟨⟨_, by rw [HF.out.2], by rw [HF.out.1, ← HOV.out]; exact BigIs.mk (HS2.out.res (by go_simp) (by go_simp) (by go_simp) _ _ _)⟩, (by repeat (first | exact Below.refl _ _ | exact Below_of_hid (by assumption) | refine Below.drew ?_ | refine below_drewN ?_ _ | refine Below_putRow ?_ (by first | omega | (simp; done) | (simp; omega) | fail) _ _ | refine Below.alloc ?_ (by first | omega | (simp; done) | (simp; omega) | fail) _ | refine Below.setCell ?_ (by first | omega | (simp; done) | (simp; omega) | fail) _ | refine Below.trans ?_ (Below.mono (by assumption) (by first | omega | (simp; done) | (simp; omega) | fail))))⟩
              · have HF : Hid (prs L = WI.of 0 ∧ prO L = false) := fail_text (by rw [HT.out]; exact HG.out) (by rw [HX.out]; exact hov) (by rw [HX.out]; exact htx)
                have htb : (txt X.v == L) = false := by simpa using htx
                clear htx hov
                go_wp2_with fail
                exact bodyPost_row_t 3 #[.bool false, .bool false, .slice none 0 0] (.bool false) rfl rfl rfl rfl Try.underlying32 rfl (by kernel_rfl) (row_of_cells 2 _ rfl (by intro i hi; rcases i with _ | _ | _ | i; (go_simp); (go_simp); (go_simp); exact absurd hi (by omega))) ⟨⟨_, by rw [HF.out.2], by rw [HF.out.1]; exact zero_big _⟩, (by repeat (first | exact Below.refl _ _ | exact Below_of_hid (by assumption) | refine Below.drew ?_ | refine below_drewN ?_ _ | refine Below_putRow ?_ (by first | omega | (simp; done) | (simp; omega) | fail) _ _ | refine Below.alloc ?_ (by first | omega | (simp; done) | (simp; omega) | fail) _ | refine Below.setCell ?_ (by first | omega | (simp; done) | (simp; omega) | fail) _ | refine Below.trans ?_ (Below.mono (by assumption) (by first | omega | (simp; done) | (simp; omega) | fail))))⟩
      · have g1 : ¬ ((L[0]'hp).toNat : Int) = 45 := by
          intro h
          apply h45
          rw [hhd]; congr 1; exact UInt8.toNat_inj.1 (by show _ = 45; omega)
        obtain ⟨c0, hc0⟩ : ∃ c, c = (L[0]'hp).toNat := ⟨_, rfl⟩
        rw [← hc0] at g1 ix0
        have e : sg = false := by rw [← hsg]; unfold prN; exact decide_eq_false h45
        subst e
        have e : L = D := by rw [← hT]; unfold prT; rw [if_neg h45]
        subst e
        clear hhd hl h0 h45 hT hsg hc0 hp
        obtain ⟨n8, hn8⟩ : ∃ n, L.length / 8 = n := ⟨_, rfl⟩
        have td : (L.length : Int).tdiv 8 = (n8 : Int) := by rw [Int.tdiv_eq_ediv_of_nonneg (by omega)]; omega
        have hn300 : n8 ≤ 300 := by have := HDL.out; omega
        have HN8 : Hid (L.length < 8 * (n8 + 1)) := by show _ < _; omega
        have hm := run_make_row (P := Try.prog) 30 108 i0 (.int .u32 0) Try.underlying30 hi hz0 hz1 rfl .i64 .i64 (n8 + 1) (by rw [hz2]; omega) (by omega)
        push_cast at hm
        clear hn8
        go_enter Try.func37, Try.ntmps37
        go_wp2_with fail
        clear hm
        have hr0 := Lib.hid (World.rowIs_made (w.alloc (Obj.cells #[.bool false, .bool false, .slice none 0 0] 32)) (.int .u32 0) (n8 + 1) 108)
        go_loopw [34] (fun t34 wr => ∃ i : Nat, i ≤ L.length ∧ t34 = .int .i64 i ∧ Hid ((L.drop (L.length - i)).all okD = true) ∧ Hid (wr.rowIs (w.heap.size + 1) 108 (n8 + 1) (fun j => .int .u32 ((vl (L.drop (L.length - i)) / 4294967296 ^ j % 4294967296 : Nat) : Int))) ∧ Hid (Blk wr w.heap.size #[.bool false, .bool false, .slice none 0 0] 32) ∧ Hid (Below w.heap.size w wr)) (fun t34 _ => L.length - (intOf t34).toNat)
        case atStart =>
          refine ⟨0, Nat.zero_le _, rfl, by rw [Nat.sub_zero, List.drop_length]; rfl, ?_, (Blk.new _ _ _).alloc _, (by repeat (first | exact Below.refl _ _ | exact Below_of_hid (by assumption) | refine Below.drew ?_ | refine below_drewN ?_ _ | refine Below_putRow ?_ (by first | omega | (simp; done) | (simp; omega) | fail) _ _ | refine Below.alloc ?_ (by first | omega | (simp; done) | (simp; omega) | fail) _ | refine Below.setCell ?_ (by first | omega | (simp; done) | (simp; omega) | fail) _ | refine Below.trans ?_ (Below.mono (by assumption) (by first | omega | (simp; done) | (simp; omega) | fail))))⟩
          rw [drop_len]
          have := hr0.out.congr (g := fun j => .int .u32 ((0 / 4294967296 ^ j % 4294967296 : Nat) : Int)) (fun j _ => by simp)
          rw [show (w.alloc (Obj.cells #[.bool false, .bool false, .slice none 0 0] 32)).heap.size = w.heap.size + 1 by simp] at this
          exact this
        case round =>
          clear hr0
          obtain ⟨i, hi', rfl, HG, HRW, Q0, HB⟩ := hrel
          have hbs := HB.out.size
          have q0 : wr.cell? ⟨w.heap.size, 0, none⟩ = some (.bool false) := Q0.out.cell (i := 0) rfl
          have q1 : wr.cell? ⟨w.heap.size, 1, none⟩ = some (.bool false) := Q0.out.cell (i := 1) rfl
          have q2 : wr.cell? ⟨w.heap.size, 2, none⟩ = some (.slice none 0 0) := Q0.out.cell (i := 2) rfl
          have qf := Q0.out.frozen
          have qt := Q0.out.fits 3 (by simp)
          have ql := Q0.out.lt
          by_cases hlt : i < L.length
          · have k1 : (i : Int) < (L.length : Int) := by omega
            have ixk : ∀ w, (Instr.index 9 (str L) (.int .i64 ((L.length : Int) - 1 - (i : Int)))).run Try.prog w = .ok (.int .u8 (L[L.length - 1 - i]'(by omega)).toNat) w := fun w => idx_str L (L.length - 1 - i) _ (by omega) (by omega) w
            have HFD : Hid (okD (L[L.length - 1 - i]'(by omega)) = false → prs L = WI.of 0 ∧ prO L = false) := fun h => fail_dig (L := L) (i := L.length - 1 - i) (by rw [HT.out]; omega) (by simp only [HT.out]; exact h)
            have HV := Lib.hid (vl_back hlt)
            have HG2 : Hid (okD (L[L.length - 1 - i]'(by omega)) = true → (L.drop (L.length - (i + 1))).all okD = true) := fun h => all_drop hlt HG.out h
            have HVL := Lib.hid (vl_drop_lt hi')
            obtain ⟨c, hc⟩ : ∃ c, L[L.length - 1 - i]'(by omega) = c := ⟨_, rfl⟩
            rw [hc] at ixk HFD HV HG2
            obtain ⟨V, hV⟩ : ∃ V, vl (L.drop (L.length - i)) = V := ⟨_, rfl⟩
            rw [hV] at HV HRW HVL
            obtain ⟨q, hq⟩ : ∃ q, i / 8 = q := ⟨_, rfl⟩
            obtain ⟨s, hs⟩ : ∃ s, 4 * (i % 8) = s := ⟨_, rfl⟩
            have tq : (i : Int).tdiv 8 = (q : Int) := by rw [Int.tdiv_eq_ediv_of_nonneg (by omega)]; omega
            have tr : (4 : Int) * (i : Int).tmod 8 = (s : Int) := by rw [Int.tmod_eq_emod_of_nonneg (by omega)]; omega
            have hs32 : s < 32 := by omega
            have hq8 : q < n8 + 1 := by have := HN8.out; omega
            have hck := HRW.out.cell hq8
            have hfk := HRW.out.frozen
            have i300 : i < 300 := by have := HDL.out; omega
            have d300 : L.length ≤ 300 := HDL.out
            have HQ := Lib.hid (And.intro hq hs)
            have hq300 : q < 300 := by omega
            clear hc hV hq hs
            have hclt : c.toNat < 256 := c.toNat_lt
            by_cases hok : okD c = true
            · have HND := nib_digit V (dv c) i HVL.out (dv_lt c)
              have HSM := nib_small (dv c) i (dv_lt c)
              rw [HQ.out.1, HQ.out.2] at HND
              rw [HQ.out.2] at HSM
              have HP : Hid (∀ j, (dv c * 16 ^ i + V) / 4294967296 ^ j % 4294967296 = if j = q then V / 4294967296 ^ q % 4294967296 + dv c * 2 ^ s else V / 4294967296 ^ j % 4294967296) := fun j => by
                rw [put_nib V (dv c) i j HVL.out (dv_lt c), HQ.out.1, HQ.out.2, HND.1]
              have HG3 := Lib.hid (HG2.out hok)
              obtain ⟨v, hv⟩ : ∃ v, V / 4294967296 ^ q % 4294967296 = v := ⟨_, rfl⟩
              rw [hv] at hck HP
              have hvs : v < 2 ^ s := by rw [← hv, HND.1]; exact HND.2
              have HVS := Lib.hid hvs
              clear HND
              obtain ⟨d, hd⟩ : ∃ d, dv c = d := ⟨_, rfl⟩
              rw [hd] at HP HSM HV
              have hv32 : v < 4294967296 := by omega
              have hor : bits .or .u32 (v : Int) ((d : Int) * 2 ^ (4 * (i % 8)) % 4294967296) = ((v + d * 2 ^ s : Nat) : Int) := by
                rw [HQ.out.2, show ((d : Int) * 2 ^ s) = ((d * 2 ^ s : Nat) : Int) by push_cast; rfl, show ((d * 2 ^ s : Nat) : Int) % 4294967296 = ((d * 2 ^ s : Nat) : Int) by omega, bits_or_u32_nat _ _ hv32 (by omega), or_nib _ _ _ hvs]
              have HW := Lib.hid hor
              have HNEW : Hid (∀ j, vl (L.drop (L.length - (i + 1))) / 4294967296 ^ j % 4294967296 = if j = q then v + d * 2 ^ s else V / 4294967296 ^ j % 4294967296) := fun j => by rw [HV.out]; exact HP.out j
              clear HP HSM hv hor hvs
              by_cases ha : 48 ≤ c.toNat ∧ c.toNat ≤ 57
              · have hdd : d = c.toNat - 48 := by rw [← hd]; exact (okD_low ha).2
                obtain ⟨n, hn⟩ : ∃ n, c.toNat = n := ⟨_, rfl⟩
                rw [hn] at ixk ha hclt hdd
                have y1 : (48 : Int) ≤ (n : Int) := by omega
                have y2 : (n : Int) ≤ 57 := by omega
                have y3 : IntKind.u8.wrap ((n : Int) - 48) = (d : Int) := by rw [IntKind.wrap_u8]; omega
                have y4 : IntKind.u32.wrap (d : Int) = (d : Int) := by rw [IntKind.wrap_u32]; omega
                clear ha hdd hn hd hok
                go_wp2_with fail
                rw [HW.out]
                refine ⟨⟨i + 1, by omega, by first | rfl | go_num, HG3, ?_, ?_, ?_⟩, by simp [intOf] <;> omega⟩
                · refine Lib.hid ((HRW.out.set q _).congr (fun j _ => ?_))
                  rw [HNEW.out j]
                  by_cases e : j = q
                  · rw [if_pos e, if_pos e]
                  · rw [if_neg e, if_neg e]
                · exact Q0.out.setCell_other (by simp) _
                · exact HB.out.setCell (by simp) _
              · have hb : 97 ≤ c.toNat ∧ c.toNat ≤ 102 := by
                  by_cases hb : 97 ≤ c.toNat ∧ c.toNat ≤ 102
                  · exact hb
                  · have := (okD_none ha hb).1; rw [hok] at this; cases this
                have hdd : d = c.toNat - 87 := by rw [← hd]; exact (okD_high hb).2
                obtain ⟨n, hn⟩ : ∃ n, c.toNat = n := ⟨_, rfl⟩
                rw [hn] at ixk ha hb hclt hdd
                have y1 : (48 : Int) ≤ (n : Int) := by omega
                have y2 : ¬ (n : Int) ≤ 57 := by omega
                have y5 : (97 : Int) ≤ (n : Int) := by omega
                have y6 : (n : Int) ≤ 102 := by omega
                have y3 : IntKind.u8.wrap ((n : Int) - 97) = ((n - 97 : Nat) : Int) := by rw [IntKind.wrap_u8]; omega
                have y7 : IntKind.u32.wrap ((n - 97 : Nat) : Int) = ((n - 97 : Nat) : Int) := by rw [IntKind.wrap_u32]; omega
                have y4 : IntKind.u32.wrap (((n - 97 : Nat) : Int) + 10) = (d : Int) := by rw [IntKind.wrap_u32]; omega
                clear ha hb hdd hn hd hok
                go_wp2_with fail
                rw [HW.out]
                refine ⟨⟨i + 1, by omega, by first | rfl | go_num, HG3, ?_, ?_, ?_⟩, by simp [intOf] <;> omega⟩
                · refine Lib.hid ((HRW.out.set q _).congr (fun j _ => ?_))
                  rw [HNEW.out j]
                  by_cases e : j = q
                  · rw [if_pos e, if_pos e]
                  · rw [if_neg e, if_neg e]
                · exact Q0.out.setCell_other (by simp) _
                · exact HB.out.setCell (by simp) _
            · have hok' : okD c = false := by simpa using hok
              have HF := Lib.hid (HFD.out hok')
              have ha : ¬ (48 ≤ c.toNat ∧ c.toNat ≤ 57) := fun h => by rw [(okD_low h).1] at hok'; cases hok'
              have hb : ¬ (97 ≤ c.toNat ∧ c.toNat ≤ 102) := fun h => by rw [(okD_high h).1] at hok'; cases hok'
              obtain ⟨n, hn⟩ : ∃ n, c.toNat = n := ⟨_, rfl⟩
              rw [hn] at ixk ha hb hclt
              have h3 : n < 48 ∨ (57 < n ∧ n < 97) ∨ 102 < n := by omega
              clear ha hb hok hok' hn
              rcases h3 with h | ⟨h, h'⟩ | h
              · have y1 : ¬ (48 : Int) ≤ (n : Int) := by omega
                have y2 : ¬ (97 : Int) ≤ (n : Int) := by omega
                clear h
                go_wp2_with fail
                exact bodyPost_row_t 3 #[.bool false, .bool false, .slice none 0 0] (.bool false) rfl rfl rfl rfl Try.underlying32 rfl (by kernel_rfl) (row_of_cells 2 _ rfl (by intro i hi; rcases i with _ | _ | _ | i; (go_simp); (go_simp); (go_simp); exact absurd hi (by omega))) ⟨⟨_, by rw [HF.out.2], by rw [HF.out.1]; exact zero_big _⟩, ((HB.out.setCell (Nat.le_refl _) _).setCell (Nat.le_refl _) _).setCell (Nat.le_refl _) _⟩
              · have y1 : (48 : Int) ≤ (n : Int) := by omega
                have y3 : ¬ (n : Int) ≤ 57 := by omega
                have y2 : ¬ (97 : Int) ≤ (n : Int) := by omega
                clear h h'
                go_wp2_with fail
                exact bodyPost_row_t 3 #[.bool false, .bool false, .slice none 0 0] (.bool false) rfl rfl rfl rfl Try.underlying32 rfl (by kernel_rfl) (row_of_cells 2 _ rfl (by intro i hi; rcases i with _ | _ | _ | i; (go_simp); (go_simp); (go_simp); exact absurd hi (by omega))) ⟨⟨_, by rw [HF.out.2], by rw [HF.out.1]; exact zero_big _⟩, ((HB.out.setCell (Nat.le_refl _) _).setCell (Nat.le_refl _) _).setCell (Nat.le_refl _) _⟩
              · have y1 : (48 : Int) ≤ (n : Int) := by omega
                have y3 : ¬ (n : Int) ≤ 57 := by omega
                have y2 : (97 : Int) ≤ (n : Int) := by omega
                have y4 : ¬ (n : Int) ≤ 102 := by omega
                clear h
                go_wp2_with fail
                exact bodyPost_row_t 3 #[.bool false, .bool false, .slice none 0 0] (.bool false) rfl rfl rfl rfl Try.underlying32 rfl (by kernel_rfl) (row_of_cells 2 _ rfl (by intro i hi; rcases i with _ | _ | _ | i; (go_simp); (go_simp); (go_simp); exact absurd hi (by omega))) ⟨⟨_, by rw [HF.out.2], by rw [HF.out.1]; exact zero_big _⟩, ((HB.out.setCell (Nat.le_refl _) _).setCell (Nat.le_refl _) _).setCell (Nat.le_refl _) _⟩
          · obtain rfl : i = L.length := by omega
            have k1 : ¬ ((L.length : Nat) : Int) < (L.length : Int) := by omega
            rw [Nat.sub_self, List.drop_zero] at HRW HG
            have hrd := Lib.hid (Rd.row HRW.out (by omega) (fun j _ => Nat.mod_lt _ (by decide)))
            have HVAL : Hid (nv ((List.range (n8 + 1)).map fun j => vl L / 4294967296 ^ j % 4294967296) = vl L) := by
              show _ = _
              rw [nv_range, nvf_of_digits _ (vl L) _ (fun _ _ => rfl)]
              refine Nat.mod_eq_of_lt (Nat.lt_of_lt_of_le (vl_lt L) ?_)
              rw [p16, show (4294967296 : Nat) = 2 ^ 32 from rfl, ← Nat.pow_mul]
              exact Nat.pow_le_pow_right (by decide) (by have := HN8.out; omega)
            obtain ⟨X, hX⟩ : ∃ X, WI.of (sgn false (vl L)) = X := ⟨_, rfl⟩
            have HX : Hid (prX L = X) := by show _ = _; unfold prX; rw [HSG.out, HT.out, hX]
            have HMX : Hid (WI.of (sgn false (nv ((List.range (n8 + 1)).map fun j => vl L / 4294967296 ^ j % 4294967296))) = X) := by show _ = _; rw [HVAL.out, hX]
            clear hi' hlt hX
            go_wp2_with fail
            refine (made_x false _ _ _ X HMX (by first | exact hrd.out | (have := hrd.out; push_cast at this; exact this))).mono ?_
            rintro e w1 ⟨⟨v, rfl, hv⟩, hb1⟩
            obtain ⟨A1, c1, rfl, hs1⟩ := hv.opened
            have HS1 := Lib.hid hs1
            have Q0' := Lib.hid (Q0.out.keep hb1)
            have HB1 := Lib.hid (HB.out.trans (hb1.mono HB.out.size))
            clear hv hs1 q0 q1 q2 qf qt ql hrd HRW
            have q0 : w1.cell? ⟨w.heap.size, 0, none⟩ = some (.bool false) := Q0'.out.cell (i := 0) rfl
            have q1 : w1.cell? ⟨w.heap.size, 1, none⟩ = some (.bool false) := Q0'.out.cell (i := 1) rfl
            have q2 : w1.cell? ⟨w.heap.size, 2, none⟩ = some (.slice none 0 0) := Q0'.out.cell (i := 2) rfl
            have qf := Q0'.out.frozen
            have qt := Q0'.out.fits 3 (by simp)
            have ql := Q0'.out.lt
            cases hov : X.ov with
            | true =>
              have HF : Hid (prs L = WI.of 0 ∧ prO L = false) := fail_ov (by rw [HX.out]; exact hov)
              go_wp2_with fail
              exact bodyPost_row_t 3 #[.bool false, .bool false, .slice none 0 0] (.bool false) rfl rfl rfl rfl Try.underlying32 rfl (by kernel_rfl) (row_of_cells 2 _ rfl (by intro i hi; rcases i with _ | _ | _ | i; (go_simp); (go_simp); (go_simp); exact absurd hi (by omega))) ⟨⟨_, by rw [HF.out.2], by rw [HF.out.1]; exact zero_big _⟩, (by repeat (first | exact Below.refl _ _ | exact Below_of_hid (by assumption) | refine Below.drew ?_ | refine below_drewN ?_ _ | refine Below_putRow ?_ (by first | omega | (simp; done) | (simp; omega) | fail) _ _ | refine Below.alloc ?_ (by first | omega | (simp; done) | (simp; omega) | fail) _ | refine Below.setCell ?_ (by first | omega | (simp; done) | (simp; omega) | fail) _ | refine Below.trans ?_ (Below.mono (by assumption) (by first | omega | (simp; done) | (simp; omega) | fail))))⟩
            | false =>
              have HOV : Hid (X.ov = false) := hov
              go_wp2_with fail
              refine (text_r _ X _ (by rw [show (#[.bool X.ng, .bool false, .slice A1 (dg X.sz).length c1] : Array Value) = #[.bool X.ng, .bool X.ov, .slice A1 (dg X.sz).length c1] by rw [hov]]; exact BigIs.mk (HS1.out.below (by repeat (first | exact Below.refl _ _ | exact Below_of_hid (by assumption) | refine Below.drew ?_ | refine below_drewN ?_ _ | refine Below_putRow ?_ (by first | omega | (simp; done) | (simp; omega) | fail) _ _ | refine Below.alloc ?_ (by first | omega | (simp; done) | (simp; omega) | fail) _ | refine Below.setCell ?_ (by first | omega | (simp; done) | (simp; omega) | fail) _ | refine Below.trans ?_ (Below.mono (by assumption) (by first | omega | (simp; done) | (simp; omega) | fail))))))).mono ?_
              rintro e w2 ⟨rfl, hb2⟩
              have z_w2 := hb2.size; (try simp at z_w2); obtain ⟨y_w2_0_0, c_w2_0_0, f_w2_0_0, r_w2_0_0, t_w2_0_0, p_w2_0_0⟩ := bk hb2 (w.heap.size) (by first | omega | (simp; done) | (simp; omega) | fail); obtain ⟨y_w2_1_0, c_w2_1_0, f_w2_1_0, r_w2_1_0, t_w2_1_0, p_w2_1_0⟩ := bk hb2 (w1.heap.size) (by first | omega | (simp; done) | (simp; omega) | fail)
              by_cases htx : txt X.v = L
              · have HF : Hid (prs L = X ∧ prO L = true) := by
                  have := good_text HL.out (by rw [HT.out]; exact HG.out) (by rw [HX.out]; exact hov) (by rw [HX.out]; exact htx)
                  exact ⟨this.1.trans HX.out, this.2⟩
                have htb : (txt X.v == L) = true := by simpa using htx
                have HS2 := Lib.hid (HS1.out.below (show Below w1.heap.size w1 w2 from (by repeat (first | exact Below.refl _ _ | exact Below_of_hid (by assumption) | refine Below.drew ?_ | refine below_drewN ?_ _ | refine Below_putRow ?_ (by first | omega | (simp; done) | (simp; omega) | fail) _ _ | refine Below.alloc ?_ (by first | omega | (simp; done) | (simp; omega) | fail) _ | refine Below.setCell ?_ (by first | omega | (simp; done) | (simp; omega) | fail) _ | refine Below.trans ?_ (Below.mono (by assumption) (by first | omega | (simp; done) | (simp; omega) | fail))))))
                clear htx hov
                go_wp2_with fail
                exact bodyPost_row_t 3 #[.bool X.ng, .bool false, .slice A1 (dg X.sz).length c1] (.bool true) rfl rfl rfl rfl Try.underlying32 rfl (by kernel_rfl) (row_of_cells 2 _ rfl (by intro i hi; rcases i with _ | _ | _ | i; (go_simp); (go_simp); (go_simp); exact absurd hi (by omega))) ⟨⟨_, by rw [HF.out.2], by rw [HF.out.1, ← HOV.out]; exact BigIs.mk (HS2.out.res (by go_simp) (by go_simp) (by go_simp) _ _ _)⟩, (by repeat (first | exact Below.refl _ _ | exact Below_of_hid (by assumption) | refine Below.drew ?_ | refine below_drewN ?_ _ | refine Below_putRow ?_ (by first | omega | (simp; done) | (simp; omega) | fail) _ _ | refine Below.alloc ?_ (by first | omega | (simp; done) | (simp; omega) | fail) _ | refine Below.setCell ?_ (by first | omega | (simp; done) | (simp; omega) | fail) _ | refine Below.trans ?_ (Below.mono (by assumption) (by first | omega | (simp; done) | (simp; omega) | fail))))⟩
              · have HF : Hid (prs L = WI.of 0 ∧ prO L = false) := fail_text (by rw [HT.out]; exact HG.out) (by rw [HX.out]; exact hov) (by rw [HX.out]; exact htx)
                have htb : (txt X.v == L) = false := by simpa using htx
                clear htx hov
                go_wp2_with fail
                exact bodyPost_row_t 3 #[.bool false, .bool false, .slice none 0 0] (.bool false) rfl rfl rfl rfl Try.underlying32 rfl (by kernel_rfl) (row_of_cells 2 _ rfl (by intro i hi; rcases i with _ | _ | _ | i; (go_simp); (go_simp); (go_simp); exact absurd hi (by omega))) ⟨⟨_, by rw [HF.out.2], by rw [HF.out.1]; exact zero_big _⟩, (by repeat (first | exact Below.refl _ _ | exact Below_of_hid (by assumption) | refine Below.drew ?_ | refine below_drewN ?_ _ | refine Below_putRow ?_ (by first | omega | (simp; done) | (simp; omega) | fail) _ _ | refine Below.alloc ?_ (by first | omega | (simp; done) | (simp; omega) | fail) _ | refine Below.setCell ?_ (by first | omega | (simp; done) | (simp; omega) | fail) _ | refine Below.trans ?_ (Below.mono (by assumption) (by first | omega | (simp; done) | (simp; omega) | fail))))⟩
  · have HF := Lib.hid (fail_far hl)
    have l1 : (300 : Int) < (L.length : Int) := by omega
    clear hl hz0 hz1 hz2 hi
    go_enter Try.func37, Try.ntmps37
    go_wp2_with fail
    exact bodyPost_row_t 3 #[.bool false, .bool false, .slice none 0 0] (.bool false) rfl rfl rfl rfl Try.underlying32 rfl (by kernel_rfl) (row_of_cells 2 _ rfl (by intro i hi; rcases i with _ | _ | _ | i; (go_simp); (go_simp); (go_simp); exact absurd hi (by omega))) ⟨⟨_, by rw [HF.out.2], by rw [HF.out.1]; exact zero_big _⟩, (by repeat (first | exact Below.refl _ _ | exact Below_of_hid (by assumption) | refine Below.drew ?_ | refine below_drewN ?_ _ | refine Below_putRow ?_ (by first | omega | (simp; done) | (simp; omega) | fail) _ _ | refine Below.alloc ?_ (by first | omega | (simp; done) | (simp; omega) | fail) _ | refine Below.setCell ?_ (by first | omega | (simp; done) | (simp; omega) | fail) _ | refine Below.trans ?_ (Below.mono (by assumption) (by first | omega | (simp; done) | (simp; omega) | fail))))⟩
end Go.Proofs.Ytkepdjmgmjhejaa
namespace Go.Proofs.Ytkepdjmgmjhejaa
open Go.RowKit

theorem eq_48 (t : TypeId) (w : World) : (binOp .eql t (str [48]) (.string ⟨#[48]⟩)).run Try.prog w = .ok (.bool true) w := by
  have h : (ByteArray.mk #[48]).toList = [48] := bytes_toList [48]
  simp only [binOp, str, Op.stringOp, h, Sem.run_pure]
  rfl
theorem ne_48 (t : TypeId) (w : World) : (binOp .neq t (str [48]) (.string ⟨#[48]⟩)).run Try.prog w = .ok (.bool false) w := by
  rw [neq_one]; rfl
theorem txt_zero : txt (WI.of 0).v = [48] := by
  rw [WI.of_v (by rw [show (0 : Int).natAbs = 0 from rfl]; exact lim_pos)]
  show (if (0 : Int) < 0 then 45 :: hex (0 : Int).natAbs else hex (0 : Int).natAbs) = _
  rw [if_neg (by decide)]; rfl
theorem text_zero (w : World) : Calls Try.prog 17 #[.agg (cellsI false false 0)] w fun e w' => e = .returned (str [48]) ∧ Below w.heap.size w w' := by
  have := text_I (WI.of 0) w
  rwa [WI.of_0, txt_zero] at this
set_option maxRecDepth 100000 in
set_option maxHeartbeats 4000000 in
theorem wideMakes_c (v0 : Value) (z0 : WI) (xv : Int) (L : List UInt8) (w : World) (h0 : NumIs w v0 z0) (hx : -9223372036854775808 ≤ xv ∧ xv ≤ 9223372036854775807) :
    Calls Try.prog 8 #[v0, .int .i64 xv, str L] w fun e w' => e = .returned (.bool true) ∧ Below w.heap.size w w' := by
  have h0' := h0
  obtain ⟨A0, len0, cap0, T0, K0, rfl, -, -, -, -⟩ := h0'
  have HN0 := Lib.hid h0
  clear h0
  have HX := Lib.hid hx
  have e48 := eq_48
  have n48 := ne_48
  clear hx
  go_enter Try.func8, Try.ntmps8
  go_wp2_with fail
  have HU0 : Hid (Below w.heap.size w ((w).alloc (Obj.cells #[.slice A0 len0 cap0, .int .i64 K0] 24))) := (by repeat (first | exact Below.refl _ _ | exact Below_of_hid (by assumption) | refine Below.drew ?_ | refine below_drewN ?_ _ | refine Below_putRow ?_ (by first | omega | (simp; done) | (simp; omega) | fail) _ _ | refine Below.alloc ?_ (by first | omega | (simp; done) | (simp; omega) | fail) _ | refine Below.setCell ?_ (by first | omega | (simp; done) | (simp; omega) | fail) _ | refine Below.trans ?_ (Below.mono (by assumption) (by first | omega | (simp; done) | (simp; omega) | fail))))
  have X0_0 : Hid (Blk ((w).alloc (Obj.cells #[.slice A0 len0 cap0, .int .i64 K0] 24)) (w.heap.size) #[.slice A0 len0 cap0, .int .i64 K0] 24) := Blk.new' _ _ _ (by simp)
  refine (lawOf_r _ z0 _ (HN0.out.below HU0.out)).mono ?_
  rintro e w0 ⟨⟨bv0, rfl, hbv0⟩, hb0⟩
  obtain ⟨B0, c0, rfl, hR0⟩ := hbv0.opened
  have HR0 := Lib.hid hR0
  have HV0 : Hid (Below w.heap.size w w0) := HU0.out.trans (hb0.mono HU0.out.size)
  have Y0_0 := Lib.hid (X0_0.out.keep hb0)
  have sz0 := HV0.out.size
  clear hbv0 hR0 hb0 HU0 X0_0
  go_wp2_with fail
  obtain ⟨u1, hu1⟩ : ∃ u1, u1 = (w0.alloc (Obj.cells z0.cells 29)).alloc (Obj.cells #[.bool z0.ng, .bool z0.ov, .slice B0 (dg z0.sz).length c0] 32) := ⟨_, rfl⟩
  rw [← hu1]
  obtain ⟨g0, hg0⟩ : ∃ g0, g0 = w0.heap.size := ⟨_, rfl⟩
  have gw0 : w.heap.size ≤ g0 := by rw [hg0]; exact sz0
  have HU1 : Hid (Below w.heap.size w u1) := by rw [hu1]; exact (HV0.out.alloc HV0.out.size _).alloc (by simp; omega) _
  have X0_1 : Hid (Blk u1 (w.heap.size) #[.slice A0 len0 cap0, .int .i64 K0] 24) := by rw [hu1]; exact (Y0_0.out.alloc _).alloc _
  have BA0_1 : Hid (Blk u1 g0 z0.cells 29) := by rw [hu1, hg0]; exact (Blk.new _ _ _).alloc _
  have BB0_1 : Hid (BigAt u1 (g0 + 1) z0) := by rw [hu1, hg0]; exact ⟨B0, c0, Blk.new' _ _ _ (by simp), HR0.out.below (((Below.refl _ _).alloc (Nat.le_refl _) _).alloc (by simp) _)⟩
  rw [← hg0]
  clear hu1 hg0 HR0 HV0 sz0 Y0_0
  have BA0 := BA0_1
  have BB0 := BB0_1
  have ra0 := BA0.out.row?_all 18 (by simp)
  have HB := HU1
  clear HU1 X0_1 BA0_1 BB0_1
  clear ra0
  obtain ⟨Aq0, cq0, hC0, hR0⟩ := BB0.out
  have BC0 := Lib.hid hC0
  have HR0 := Lib.hid hR0
  clear hC0 hR0 BB0
  go_wp2_with fail
  refine (parse_w L _).mono ?_
  rintro e x1 ⟨rfl, hb⟩
  replace BA0 := Lib.hid (BA0.out.keep hb)
  replace BC0 := Lib.hid (BC0.out.keep hb)
  replace HR0 := Lib.hid (HR0.out.below hb)
  replace HB := Lib.hid (HB.out.trans (hb.mono HB.out.size))
  clear hb
  obtain ⟨P, hP⟩ : ∃ P, prs L = P := ⟨_, rfl⟩
  have HP := Lib.hid hP
  obtain ⟨ok, hok⟩ : ∃ b, prO L = b := ⟨_, rfl⟩
  have HOK := Lib.hid hok
  rw [hP, hok]
  go_wp2_with fail
  obtain ⟨y1, hy1⟩ : ∃ u, u = x1.alloc (Obj.cells P.cells 29) := ⟨_, rfl⟩
  rw [← hy1]
  have hal : Below x1.heap.size x1 y1 := by rw [hy1]; exact (Below.refl _ _).alloc (Nat.le_refl _) _
  obtain ⟨g9, hg9⟩ : ∃ g, g = x1.heap.size := ⟨_, rfl⟩
  have B9 : Hid (Blk y1 g9 P.cells 29) := by rw [hy1, hg9]; exact Blk.new _ _ _
  rw [← hg9]
  clear hy1 hg9
  replace BA0 := Lib.hid (BA0.out.keep hal)
  replace BC0 := Lib.hid (BC0.out.keep hal)
  replace HR0 := Lib.hid (HR0.out.below hal)
  replace HB := Lib.hid (HB.out.trans (hal.mono HB.out.size))
  clear hal
  refine (parse_r L _).mono ?_
  rintro e x2 ⟨⟨v, rfl, hv⟩, hb⟩
  rw [hP] at hv
  rw [hok]
  obtain ⟨A5, c5, rfl, hR5⟩ := hv.opened
  have HR5 := Lib.hid hR5
  clear hv hR5 hP hok
  replace BA0 := Lib.hid (BA0.out.keep hb)
  replace BC0 := Lib.hid (BC0.out.keep hb)
  replace HR0 := Lib.hid (HR0.out.below hb)
  replace B9 := Lib.hid (B9.out.keep hb)
  replace HB := Lib.hid (HB.out.trans (hb.mono HB.out.size))
  clear hb
  have lt9 := B9.out.lt
  cases ok with
  | true =>
    have r9 := B9.out.row?_all 18 (by simp)
    go_wp2_with fail
    clear r9
    refine (same_r P _ _ (BigIs.mk (HR5.out.below (by repeat (first | exact Below.refl _ _ | exact Below_of_hid (by assumption) | refine Below.drew ?_ | refine below_drewN ?_ _ | refine Below_putRow ?_ (by first | omega | (simp; done) | (simp; omega) | fail) _ _ | refine Below.alloc ?_ (by first | omega | (simp; done) | (simp; omega) | fail) _ | refine Below.setCell ?_ (by first | omega | (simp; done) | (simp; omega) | fail) _ | refine Below.trans ?_ (Below.mono (by assumption) (by first | omega | (simp; done) | (simp; omega) | fail))))))).mono ?_
    rintro e x3 ⟨rfl, hb0⟩
    have hb : Below x2.heap.size x2 x3 := (by repeat (first | exact Below.refl _ _ | exact Below_of_hid (by assumption) | refine Below.drew ?_ | refine below_drewN ?_ _ | refine Below_putRow ?_ (by first | omega | (simp; done) | (simp; omega) | fail) _ _ | refine Below.alloc ?_ (by first | omega | (simp; done) | (simp; omega) | fail) _ | refine Below.setCell ?_ (by first | omega | (simp; done) | (simp; omega) | fail) _ | refine Below.trans ?_ (Below.mono (by assumption) (by first | omega | (simp; done) | (simp; omega) | fail))))
    clear hb0 HR5 B9
    replace BA0 := Lib.hid (BA0.out.keep hb)
    replace BC0 := Lib.hid (BC0.out.keep hb)
    replace HR0 := Lib.hid (HR0.out.below hb)
    replace HB := Lib.hid (HB.out.trans (hb.mono HB.out.size))
    clear hb
    obtain ⟨g13, hg13⟩ : ∃ g, g = x3.heap.size := ⟨_, rfl⟩
    have B13 : Hid (Blk (x3.alloc (Obj.cells (cellsI false false 0) 29)) g13 (cellsI false false 0) 29) := by rw [hg13]; exact Blk.new _ _ _
    have ra0 := BA0.out.row?_all 18 (by simp)
    have la0 := BA0.out.lt
    have lc0 := BC0.out.lt
    have q00 : x3.cell? _ = some (.bool z0.ng) := BC0.out.cell (i := 0) rfl
    have q01 : x3.cell? _ = some (.bool z0.ov) := BC0.out.cell (i := 1) rfl
    have q02 : x3.cell? _ = some (.slice Aq0 (dg z0.sz).length cq0) := BC0.out.cell (i := 2) rfl
    go_wp2_with fail
    rw [← hg13]
    clear ra0 la0 lc0 q00 q01 q02
    refine (same_r z0 _ _ (BigIs.mk (HR0.out.below (by repeat (first | exact Below.refl _ _ | exact Below_of_hid (by assumption) | refine Below.drew ?_ | refine below_drewN ?_ _ | refine Below_putRow ?_ (by first | omega | (simp; done) | (simp; omega) | fail) _ _ | refine Below.alloc ?_ (by first | omega | (simp; done) | (simp; omega) | fail) _ | refine Below.setCell ?_ (by first | omega | (simp; done) | (simp; omega) | fail) _ | refine Below.trans ?_ (Below.mono (by assumption) (by first | omega | (simp; done) | (simp; omega) | fail))))))).mono ?_
    rintro e x4 ⟨rfl, hb⟩
    replace B13 := Lib.hid (B13.out.keep hb)
    replace HB := Lib.hid (HB.out.trans ((show Below x3.heap.size x3 x4 from ((Below.refl _ _).alloc (Nat.le_refl _) _).trans (hb.mono (by simp))).mono HB.out.size))
    clear hb hg13 BA0 BC0 HR0
    go_wp2_with fail
    refine (of_c xv HX.out.1 HX.out.2 _).mono ?_
    rintro e x5 ⟨rfl, hb⟩
    replace B13 := Lib.hid (B13.out.keep hb)
    replace HB := Lib.hid (HB.out.trans (hb.mono HB.out.size))
    clear hb
    go_wp2_with fail
    refine (of_r xv HX.out.1 HX.out.2 _).mono ?_
    rintro e x6 ⟨⟨v, rfl, hv⟩, hb⟩
    replace B13 := Lib.hid (B13.out.keep hb)
    replace HB := Lib.hid (HB.out.trans (hb.mono HB.out.size))
    clear hb
    have HV := Lib.hid hv
    clear hv
    go_wp2_with fail
    refine (same_r (WI.of xv) v _ HV.out).mono ?_
    rintro e x7 ⟨rfl, hb⟩
    replace B13 := Lib.hid (B13.out.keep hb)
    replace HB := Lib.hid (HB.out.trans (hb.mono HB.out.size))
    clear hb HV
    have r13 := B13.out.row?_all 18 (by simp)
    go_wp2_with fail
    refine (text_zero _).mono ?_
    rintro e x8 ⟨rfl, hb⟩
    replace HB := Lib.hid (HB.out.trans (hb.mono HB.out.size))
    clear hb r13 B13
    go_wp2_with fail
    refine (awake1_c _).mono ?_
    rintro e x9 ⟨rfl, hb⟩
    replace HB := Lib.hid (HB.out.trans (hb.mono HB.out.size))
    clear hb
    go_wp2_with fail
    go_ret
    exact ⟨rfl, HB.out⟩
  | false =>
    have r9 := B9.out.row?_all 18 (by simp)
    go_wp2_with fail
    have hz : P = WI.of 0 := by rw [← HP.out]; exact (prs_no HOK.out).1
    rw [hz, WI.of_0]
    clear r9 HR5 B9
    refine (text_zero _).mono ?_
    rintro e x3 ⟨rfl, hb0⟩
    have hb : Below x2.heap.size x2 x3 := (by repeat (first | exact Below.refl _ _ | exact Below_of_hid (by assumption) | refine Below.drew ?_ | refine below_drewN ?_ _ | refine Below_putRow ?_ (by first | omega | (simp; done) | (simp; omega) | fail) _ _ | refine Below.alloc ?_ (by first | omega | (simp; done) | (simp; omega) | fail) _ | refine Below.setCell ?_ (by first | omega | (simp; done) | (simp; omega) | fail) _ | refine Below.trans ?_ (Below.mono (by assumption) (by first | omega | (simp; done) | (simp; omega) | fail))))
    clear hb0 hz
    replace BA0 := Lib.hid (BA0.out.keep hb)
    replace BC0 := Lib.hid (BC0.out.keep hb)
    replace HR0 := Lib.hid (HR0.out.below hb)
    replace HB := Lib.hid (HB.out.trans (hb.mono HB.out.size))
    clear hb
    obtain ⟨g13, hg13⟩ : ∃ g, g = x3.heap.size := ⟨_, rfl⟩
    have B13 : Hid (Blk (x3.alloc (Obj.cells (cellsI false false 0) 29)) g13 (cellsI false false 0) 29) := by rw [hg13]; exact Blk.new _ _ _
    have ra0 := BA0.out.row?_all 18 (by simp)
    have la0 := BA0.out.lt
    have lc0 := BC0.out.lt
    have q00 : x3.cell? _ = some (.bool z0.ng) := BC0.out.cell (i := 0) rfl
    have q01 : x3.cell? _ = some (.bool z0.ov) := BC0.out.cell (i := 1) rfl
    have q02 : x3.cell? _ = some (.slice Aq0 (dg z0.sz).length cq0) := BC0.out.cell (i := 2) rfl
    go_wp2_with fail
    rw [← hg13]
    clear ra0 la0 lc0 q00 q01 q02
    refine (same_r z0 _ _ (BigIs.mk (HR0.out.below (by repeat (first | exact Below.refl _ _ | exact Below_of_hid (by assumption) | refine Below.drew ?_ | refine below_drewN ?_ _ | refine Below_putRow ?_ (by first | omega | (simp; done) | (simp; omega) | fail) _ _ | refine Below.alloc ?_ (by first | omega | (simp; done) | (simp; omega) | fail) _ | refine Below.setCell ?_ (by first | omega | (simp; done) | (simp; omega) | fail) _ | refine Below.trans ?_ (Below.mono (by assumption) (by first | omega | (simp; done) | (simp; omega) | fail))))))).mono ?_
    rintro e x4 ⟨rfl, hb⟩
    replace B13 := Lib.hid (B13.out.keep hb)
    replace HB := Lib.hid (HB.out.trans ((show Below x3.heap.size x3 x4 from ((Below.refl _ _).alloc (Nat.le_refl _) _).trans (hb.mono (by simp))).mono HB.out.size))
    clear hb hg13 BA0 BC0 HR0
    go_wp2_with fail
    refine (of_c xv HX.out.1 HX.out.2 _).mono ?_
    rintro e x5 ⟨rfl, hb⟩
    replace B13 := Lib.hid (B13.out.keep hb)
    replace HB := Lib.hid (HB.out.trans (hb.mono HB.out.size))
    clear hb
    go_wp2_with fail
    refine (of_r xv HX.out.1 HX.out.2 _).mono ?_
    rintro e x6 ⟨⟨v, rfl, hv⟩, hb⟩
    replace B13 := Lib.hid (B13.out.keep hb)
    replace HB := Lib.hid (HB.out.trans (hb.mono HB.out.size))
    clear hb
    have HV := Lib.hid hv
    clear hv
    go_wp2_with fail
    refine (same_r (WI.of xv) v _ HV.out).mono ?_
    rintro e x7 ⟨rfl, hb⟩
    replace B13 := Lib.hid (B13.out.keep hb)
    replace HB := Lib.hid (HB.out.trans (hb.mono HB.out.size))
    clear hb HV
    have r13 := B13.out.row?_all 18 (by simp)
    go_wp2_with fail
    refine (text_zero _).mono ?_
    rintro e x8 ⟨rfl, hb⟩
    replace HB := Lib.hid (HB.out.trans (hb.mono HB.out.size))
    clear hb r13 B13
    go_wp2_with fail
    refine (awake1_c _).mono ?_
    rintro e x9 ⟨rfl, hb⟩
    replace HB := Lib.hid (HB.out.trans (hb.mono HB.out.size))
    clear hb
    go_wp2_with fail
    go_ret
    exact ⟨rfl, HB.out⟩
end Go.Proofs.Ytkepdjmgmjhejaa
