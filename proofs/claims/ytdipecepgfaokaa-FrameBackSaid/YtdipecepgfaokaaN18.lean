/- Plain laws of changed frames: a byte, four bytes. -/
import Derived.Test.YtdipecepgfaokaaN15
namespace Go.Proofs.Ytdipecepgfaokaa
set_option linter.unusedSimpArgs false
set_option linter.unusedVariables false

theorem xor_zero {a b : Nat} (h : a ^^^ b = a) : b = 0 := by
  have : a ^^^ b = a ^^^ 0 := by rw [h, Nat.xor_zero]
  exact xr_left this
theorem split_at (l : List Nat) (k : Nat) (h : k < l.length) : l = l.take k ++ [l.getD k 0] ++ l.drop (k + 1) := by
  rw [List.getD_eq_getElem?_getD, List.getElem?_eq_getElem h, Option.getD_some, List.append_assoc, List.singleton_append, List.getElem_cons_drop h, List.take_append_drop]
theorem getD_app (a b : List Nat) (n : Nat) (h : a.length ≤ n) : (a ++ b).getD n 0 = b.getD (n - a.length) 0 := by
  rw [List.getD_eq_getElem?_getD, List.getD_eq_getElem?_getD, List.getElem?_append_right h]
theorem set_mid (p q : List Nat) (c d : Nat) (k : Nat) (hk : p.length = k) : (p ++ [c] ++ q).set k d = p ++ [d] ++ q := by
  subst hk
  rw [List.append_assoc, List.append_assoc, List.set_append_right _ _ (Nat.le_refl _), Nat.sub_self]; rfl
theorem getD_mid (p q : List Nat) (c : Nat) (k : Nat) (hk : p.length = k) : (p ++ [c] ++ q).getD k 0 = c := by
  subst hk
  rw [List.append_assoc, getD_app _ _ _ (Nat.le_refl _), Nat.sub_self]; rfl
theorem one_byte (f : FrD) (hm : mayF f = true) (k x : Nat) (hk : k < 80) (hx : x < 256) : ((decE ((encL f).set k ((encL f).getD k 0 ^^^ x))).2 == 0) = ((x : Int) == 0) := by
  have hl := enc_len f
  have hy := enc_byt f
  have hs := split_at (encL f) k (by omega)
  have hck := byt_getD hy k
  have hset := set_mid ((encL f).take k) ((encL f).drop (k + 1)) ((encL f).getD k 0) ((encL f).getD k 0 ^^^ x) k (by rw [List.length_take]; omega)
  rw [← hs] at hset
  by_cases h0 : x = 0
  · subst h0
    rw [hset, Nat.xor_zero, ← hs, dec_enc f hm]; rfl
  · have hne : (encL f).getD k 0 ≠ (encL f).getD k 0 ^^^ x := fun e => h0 (xor_zero e.symm)
    have hb : Byt [(encL f).getD k 0 ^^^ x] := by intro z hz; rw [List.mem_singleton.1 hz]; exact Nat.xor_lt_two_pow (n := 8) hck hx
    have key : (decE ((encL f).set k ((encL f).getD k 0 ^^^ x))).2 ≠ 0 := by
      by_cases h76 : k < 76
      · rw [hset]
        exact dec_burst f _ _ _ _ hs hb rfl (by show 1 ≤ 4; omega) (by rw [List.length_take]; show _ + 1 ≤ 76; omega) (fun e => hne (List.cons.inj e).1)
      · have e2 : (encL f).set k ((encL f).getD k 0 ^^^ x) = bodyL f ++ (be 4 (crc (bodyL f))).set (k - 76) ((encL f).getD k 0 ^^^ x) := by
          unfold encL
          rw [List.set_append_right _ _ (by rw [body_len]; omega), body_len]
        have e3 : (encL f).getD k 0 = (be 4 (crc (bodyL f))).getD (k - 76) 0 := by
          unfold encL
          rw [getD_app _ _ _ (by rw [body_len]; omega), body_len]
        rw [e2]
        refine dec_tail f _ ?_ (by rw [List.length_set, be_length]) ?_
        · intro z hz
          rcases List.mem_or_eq_of_mem_set hz with hz | rfl
          · exact be_byt _ _ z hz
          · exact hb _ List.mem_cons_self
        · intro e
          apply hne
          have hlt : k - 76 < (be 4 (crc (bodyL f))).length := by rw [be_length]; omega
          have := congrArg (fun l : List Nat => l.getD (k - 76) 0) e
          simp only [List.getD_eq_getElem?_getD (l := List.set _ _ _), List.getElem?_set_self hlt, Option.getD_some] at this
          rw [this, e3]
    rw [beq_false_of_ne key]
    exact (beq_false_of_ne (by omega)).symm
/-- Four bytes changed, one by one. -/
def x4 (l : List Nat) (p : Nat) (y : Nat → Nat) : Nat → List Nat
  | 0 => l
  | j + 1 => (x4 l p y j).set (p + j) ((x4 l p y j).getD (p + j) 0 ^^^ y j)
theorem x4_len (l : List Nat) (p : Nat) (y : Nat → Nat) (j : Nat) : (x4 l p y j).length = l.length := by
  induction j with
  | zero => rfl
  | succ j ih => rw [x4, List.length_set, ih]
theorem x4_all (P Q : List Nat) (c0 c1 c2 c3 : Nat) (y : Nat → Nat) : x4 (P ++ [c0, c1, c2, c3] ++ Q) P.length y 4 = P ++ [c0 ^^^ y 0, c1 ^^^ y 1, c2 ^^^ y 2, c3 ^^^ y 3] ++ Q := by
  have e0 : x4 (P ++ [c0, c1, c2, c3] ++ Q) P.length y 1 = P ++ [c0 ^^^ y 0] ++ ([c1, c2, c3] ++ Q) := by
    have h : P ++ [c0, c1, c2, c3] ++ Q = P ++ [c0] ++ ([c1, c2, c3] ++ Q) := by simp
    rw [x4, x4, h, Nat.add_zero, getD_mid _ _ _ _ rfl, set_mid _ _ _ _ _ rfl]
  have e1 : x4 (P ++ [c0, c1, c2, c3] ++ Q) P.length y 2 = (P ++ [c0 ^^^ y 0]) ++ [c1 ^^^ y 1] ++ ([c2, c3] ++ Q) := by
    have h : P ++ [c0 ^^^ y 0] ++ ([c1, c2, c3] ++ Q) = (P ++ [c0 ^^^ y 0]) ++ [c1] ++ ([c2, c3] ++ Q) := by simp
    rw [x4, e0, h, getD_mid _ _ _ _ (by simp), set_mid _ _ _ _ _ (by simp)]
  have e2 : x4 (P ++ [c0, c1, c2, c3] ++ Q) P.length y 3 = (P ++ [c0 ^^^ y 0] ++ [c1 ^^^ y 1]) ++ [c2 ^^^ y 2] ++ ([c3] ++ Q) := by
    have h : (P ++ [c0 ^^^ y 0]) ++ [c1 ^^^ y 1] ++ ([c2, c3] ++ Q) = (P ++ [c0 ^^^ y 0] ++ [c1 ^^^ y 1]) ++ [c2] ++ ([c3] ++ Q) := by simp
    rw [x4, e1, h, getD_mid _ _ _ _ (by simp), set_mid _ _ _ _ _ (by simp)]
  have h : (P ++ [c0 ^^^ y 0] ++ [c1 ^^^ y 1]) ++ [c2 ^^^ y 2] ++ ([c3] ++ Q) = (P ++ [c0 ^^^ y 0] ++ [c1 ^^^ y 1] ++ [c2 ^^^ y 2]) ++ [c3] ++ Q := by simp
  rw [x4, e2, h, getD_mid _ _ _ _ (by simp), set_mid _ _ _ _ _ (by simp)]
  simp
theorem four_bytes (f : FrD) (hm : mayF f = true) (p : Nat) (hp : p ≤ 72) (y : Nat → Nat) (hy : ∀ i, y i < 256) :
    ((decE (x4 (encL f) p y 4)).2 == 0) = decide (y 0 = 0 ∧ y 1 = 0 ∧ y 2 = 0 ∧ y 3 = 0) := by
  have hl := enc_len f
  have hb := enc_byt f
  obtain ⟨c0, c1, c2, c3, Q, hd⟩ : ∃ c0 c1 c2 c3 Q, (encL f).drop p = c0 :: c1 :: c2 :: c3 :: Q := by
    have : 4 ≤ ((encL f).drop p).length := by rw [List.length_drop]; omega
    match h : (encL f).drop p with
    | [] => rw [h] at this; simp at this
    | [_] => rw [h] at this; simp at this
    | [_, _] => rw [h] at this; simp at this
    | [_, _, _] => rw [h] at this; simp at this
    | c0 :: c1 :: c2 :: c3 :: Q => exact ⟨c0, c1, c2, c3, Q, rfl⟩
  have hs : encL f = (encL f).take p ++ [c0, c1, c2, c3] ++ Q := by
    rw [List.append_assoc]; show _ = _ ++ (c0 :: c1 :: c2 :: c3 :: Q); rw [← hd, List.take_append_drop]
  have hpl : ((encL f).take p).length = p := by rw [List.length_take]; omega
  have hx := x4_all ((encL f).take p) Q c0 c1 c2 c3 y
  rw [← hs, hpl] at hx
  rw [hx]
  have cl : ∀ c ∈ [c0, c1, c2, c3], c < 256 := fun c hc => hb c (by rw [hs]; exact List.mem_append_left _ (List.mem_append_right _ hc))
  by_cases h0 : y 0 = 0 ∧ y 1 = 0 ∧ y 2 = 0 ∧ y 3 = 0
  · obtain ⟨g0, g1, g2, g3⟩ := h0
    rw [g0, g1, g2, g3, Nat.xor_zero, Nat.xor_zero, Nat.xor_zero, Nat.xor_zero, ← hs, dec_enc f hm]; rfl
  · have key := dec_burst f ((encL f).take p) [c0, c1, c2, c3] [c0 ^^^ y 0, c1 ^^^ y 1, c2 ^^^ y 2, c3 ^^^ y 3] Q hs
      (by
        intro z hz
        simp only [List.mem_cons, List.not_mem_nil, or_false] at hz
        rcases hz with rfl | rfl | rfl | rfl <;> exact Nat.xor_lt_two_pow (n := 8) (cl _ (by simp)) (hy _))
      rfl (by show 4 ≤ 4; omega) (by rw [hpl]; show p + 4 ≤ 76; omega)
      (by
        intro e
        injection e with e0 e
        injection e with e1 e
        injection e with e2 e
        injection e with e3 _
        exact h0 ⟨xor_zero e0.symm, xor_zero e1.symm, xor_zero e2.symm, xor_zero e3.symm⟩)
    rw [decide_eq_false h0]
    exact beq_false_of_ne key
end Go.Proofs.Ytdipecepgfaokaa
