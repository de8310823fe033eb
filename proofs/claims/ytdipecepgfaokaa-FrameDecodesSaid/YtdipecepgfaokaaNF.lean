/- Plain laws of changed frames: a byte, four bytes. The walk of alidadelaw13.FrameBack. -/
import Derived.Test.YtdipecepgfaokaaN15
import Derived.BigRegion
namespace Go.Proofs.Ytdipecepgfaokaa
set_option linter.unusedSimpArgs false
set_option linter.unusedVariables false

theorem xor_zero {a b : Nat} (h : a ^^^ b = a) : b = 0 := by
  have : a ^^^ b = a ^^^ 0 := by rw [h, Nat.xor_zero]
  exact xr_left this
theorem split_at (l : List Nat) (k : Nat) (h : k < l.length) : l = l.take k ++ [l.getD k 0] ++ l.drop (k + 1) := by
  rw [List.getD_eq_getElem?_getD, List.getElem?_eq_getElem h, Option.getD_some, List.append_assoc, List.singleton_append, List.getElem_cons_drop h, List.take_append_drop]
theorem getD_app (a b : List Nat) (n : Nat) (h : a.length ≤ n) : (a ++ b).getD n 0 = b.getD (n - a.length) 0 := by
  rw [List.getD_eq_getElem?_getD, List.getD_eq_getElem?_getD, List.getElem?_append_right h]
theorem set_mid (p q : List Nat) (c d : Nat) (k : Nat) (hk : p.length = k) : (p ++ [c] ++ q).set k d = p ++ [d] ++ q := by
  subst hk
  rw [List.append_assoc, List.append_assoc, List.set_append_right _ _ (Nat.le_refl _), Nat.sub_self]; rfl
theorem getD_mid (p q : List Nat) (c : Nat) (k : Nat) (hk : p.length = k) : (p ++ [c] ++ q).getD k 0 = c := by
  subst hk
  rw [List.append_assoc, getD_app _ _ _ (Nat.le_refl _), Nat.sub_self]; rfl
theorem one_byte (f : FrD) (hm : mayF f = true) (k x : Nat) (hk : k < 80) (hx : x < 256) : ((decE ((encL f).set k ((encL f).getD k 0 ^^^ x))).2 == 0) = ((x : Int) == 0) := by
  have hl := enc_len f
  have hy := enc_byt f
  have hs := split_at (encL f) k (by omega)
  have hck := byt_getD hy k
  have hset := set_mid ((encL f).take k) ((encL f).drop (k + 1)) ((encL f).getD k 0) ((encL f).getD k 0 ^^^ x) k (by rw [List.length_take]; omega)
  rw [← hs] at hset
  by_cases h0 : x = 0
  · subst h0
    rw [hset, Nat.xor_zero, ← hs, dec_enc f hm]; rfl
  · have hne : (encL f).getD k 0 ≠ (encL f).getD k 0 ^^^ x := fun e => h0 (xor_zero e.symm)
    have hb : Byt [(encL f).getD k 0 ^^^ x] := by intro z hz; rw [List.mem_singleton.1 hz]; exact Nat.xor_lt_two_pow (n := 8) hck hx
    have key : (decE ((encL f).set k ((encL f).getD k 0 ^^^ x))).2 ≠ 0 := by
      by_cases h76 : k < 76
      · rw [hset]
        exact dec_burst f _ _ _ _ hs hb rfl (by show 1 ≤ 4; omega) (by rw [List.length_take]; show _ + 1 ≤ 76; omega) (fun e => hne (List.cons.inj e).1)
      · have e2 : (encL f).set k ((encL f).getD k 0 ^^^ x) = bodyL f ++ (be 4 (crc (bodyL f))).set (k - 76) ((encL f).getD k 0 ^^^ x) := by
          unfold encL
          rw [List.set_append_right _ _ (by rw [body_len]; omega), body_len]
        have e3 : (encL f).getD k 0 = (be 4 (crc (bodyL f))).getD (k - 76) 0 := by
          unfold encL
          rw [getD_app _ _ _ (by rw [body_len]; omega), body_len]
        rw [e2]
        refine dec_tail f _ ?_ (by rw [List.length_set, be_length]) ?_
        · intro z hz
          rcases List.mem_or_eq_of_mem_set hz with hz | rfl
          · exact be_byt _ _ z hz
          · exact hb _ List.mem_cons_self
        · intro e
          apply hne
          have hlt : k - 76 < (be 4 (crc (bodyL f))).length := by rw [be_length]; omega
          have := congrArg (fun l : List Nat => l.getD (k - 76) 0) e
          simp only [List.getD_eq_getElem?_getD (l := List.set _ _ _), List.getElem?_set_self hlt, Option.getD_some] at this
          rw [this, e3]
    rw [beq_false_of_ne key]
    exact (beq_false_of_ne (by omega)).symm
/-- Four bytes changed, one by one. -/
def x4 (l : List Nat) (p : Nat) (y : Nat → Nat) : Nat → List Nat
  | 0 => l
  | j + 1 => (x4 l p y j).set (p + j) ((x4 l p y j).getD (p + j) 0 ^^^ y j)
theorem x4_len (l : List Nat) (p : Nat) (y : Nat → Nat) (j : Nat) : (x4 l p y j).length = l.length := by
  induction j with
  | zero => rfl
  | succ j ih => rw [x4, List.length_set, ih]
theorem x4_all (P Q : List Nat) (c0 c1 c2 c3 : Nat) (y : Nat → Nat) : x4 (P ++ [c0, c1, c2, c3] ++ Q) P.length y 4 = P ++ [c0 ^^^ y 0, c1 ^^^ y 1, c2 ^^^ y 2, c3 ^^^ y 3] ++ Q := by
  have e0 : x4 (P ++ [c0, c1, c2, c3] ++ Q) P.length y 1 = P ++ [c0 ^^^ y 0] ++ ([c1, c2, c3] ++ Q) := by
    have h : P ++ [c0, c1, c2, c3] ++ Q = P ++ [c0] ++ ([c1, c2, c3] ++ Q) := by simp
    rw [x4, x4, h, Nat.add_zero, getD_mid _ _ _ _ rfl, set_mid _ _ _ _ _ rfl]
  have e1 : x4 (P ++ [c0, c1, c2, c3] ++ Q) P.length y 2 = (P ++ [c0 ^^^ y 0]) ++ [c1 ^^^ y 1] ++ ([c2, c3] ++ Q) := by
    have h : P ++ [c0 ^^^ y 0] ++ ([c1, c2, c3] ++ Q) = (P ++ [c0 ^^^ y 0]) ++ [c1] ++ ([c2, c3] ++ Q) := by simp
    rw [x4, e0, h, getD_mid _ _ _ _ (by simp), set_mid _ _ _ _ _ (by simp)]
  have e2 : x4 (P ++ [c0, c1, c2, c3] ++ Q) P.length y 3 = (P ++ [c0 ^^^ y 0] ++ [c1 ^^^ y 1]) ++ [c2 ^^^ y 2] ++ ([c3] ++ Q) := by
    have h : (P ++ [c0 ^^^ y 0]) ++ [c1 ^^^ y 1] ++ ([c2, c3] ++ Q) = (P ++ [c0 ^^^ y 0] ++ [c1 ^^^ y 1]) ++ [c2] ++ ([c3] ++ Q) := by simp
    rw [x4, e1, h, getD_mid _ _ _ _ (by simp), set_mid _ _ _ _ _ (by simp)]
  have h : (P ++ [c0 ^^^ y 0] ++ [c1 ^^^ y 1]) ++ [c2 ^^^ y 2] ++ ([c3] ++ Q) = (P ++ [c0 ^^^ y 0] ++ [c1 ^^^ y 1] ++ [c2 ^^^ y 2]) ++ [c3] ++ Q := by simp
  rw [x4, e2, h, getD_mid _ _ _ _ (by simp), set_mid _ _ _ _ _ (by simp)]
  simp
theorem four_bytes (f : FrD) (hm : mayF f = true) (p : Nat) (hp : p ≤ 72) (y : Nat → Nat) (hy : ∀ i, y i < 256) :
    ((decE (x4 (encL f) p y 4)).2 == 0) = decide (y 0 = 0 ∧ y 1 = 0 ∧ y 2 = 0 ∧ y 3 = 0) := by
  have hl := enc_len f
  have hb := enc_byt f
  obtain ⟨c0, c1, c2, c3, Q, hd⟩ : ∃ c0 c1 c2 c3 Q, (encL f).drop p = c0 :: c1 :: c2 :: c3 :: Q := by
    have : 4 ≤ ((encL f).drop p).length := by rw [List.length_drop]; omega
    match h : (encL f).drop p with
    | [] => rw [h] at this; simp at this
    | [_] => rw [h] at this; simp at this
    | [_, _] => rw [h] at this; simp at this
    | [_, _, _] => rw [h] at this; simp at this
    | c0 :: c1 :: c2 :: c3 :: Q => exact ⟨c0, c1, c2, c3, Q, rfl⟩
  have hs : encL f = (encL f).take p ++ [c0, c1, c2, c3] ++ Q := by
    rw [List.append_assoc]; show _ = _ ++ (c0 :: c1 :: c2 :: c3 :: Q); rw [← hd, List.take_append_drop]
  have hpl : ((encL f).take p).length = p := by rw [List.length_take]; omega
  have hx := x4_all ((encL f).take p) Q c0 c1 c2 c3 y
  rw [← hs, hpl] at hx
  rw [hx]
  have cl : ∀ c ∈ [c0, c1, c2, c3], c < 256 := fun c hc => hb c (by rw [hs]; exact List.mem_append_left _ (List.mem_append_right _ hc))
  by_cases h0 : y 0 = 0 ∧ y 1 = 0 ∧ y 2 = 0 ∧ y 3 = 0
  · obtain ⟨g0, g1, g2, g3⟩ := h0
    rw [g0, g1, g2, g3, Nat.xor_zero, Nat.xor_zero, Nat.xor_zero, Nat.xor_zero, ← hs, dec_enc f hm]; rfl
  · have key := dec_burst f ((encL f).take p) [c0, c1, c2, c3] [c0 ^^^ y 0, c1 ^^^ y 1, c2 ^^^ y 2, c3 ^^^ y 3] Q hs
      (by
        intro z hz
        simp only [List.mem_cons, List.not_mem_nil, or_false] at hz
        rcases hz with rfl | rfl | rfl | rfl <;> exact Nat.xor_lt_two_pow (n := 8) (cl _ (by simp)) (hy _))
      rfl (by show 4 ≤ 4; omega) (by rw [hpl]; show p + 4 ≤ 76; omega)
      (by
        intro e
        injection e with e0 e
        injection e with e1 e
        injection e with e2 e
        injection e with e3 _
        exact h0 ⟨xor_zero e0.symm, xor_zero e1.symm, xor_zero e2.symm, xor_zero e3.symm⟩)
    rw [decide_eq_false h0]
    exact beq_false_of_ne key
end Go.Proofs.Ytdipecepgfaokaa
namespace Go.Proofs.Ytdipecepgfaokaa
open Go.RowKit

theorem u64_place (n : Int) (m : Nat) (h0 : 0 < m) (h1 : m < 1000000) : ∃ i : Nat, wrap64 ((IntKind.u64.wrap n).tmod (m : Int)) = (i : Int) ∧ i < m := by
  have e : IntKind.u64.wrap n = n % 18446744073709551616 := by simp [IntKind.wrap, IntKind.signed, IntKind.bits]
  rw [e]
  have h2 : 0 ≤ n % 18446744073709551616 := Int.emod_nonneg _ (by decide)
  rw [Int.tmod_eq_emod_of_nonneg h2]
  have h3 := Int.emod_nonneg (n % 18446744073709551616) (show (m : Int) ≠ 0 by omega)
  have h4 := Int.emod_lt_of_pos (n % 18446744073709551616) (show (0 : Int) < m by omega)
  generalize (n % 18446744073709551616) % (m : Int) = r at *
  exact ⟨r.toNat, by unfold wrap64; omega, by omega⟩
abbrev by4 (y0 y1 y2 y3 : Nat) : Value := .agg #[.int .u8 (y0 : Int), .int .u8 (y1 : Int), .int .u8 (y2 : Int), .int .u8 (y3 : Int)]
set_option maxRecDepth 100000 in
theorem eqIn4 (y0 y1 y2 y3 : Nat) (w : World) : Sem.run Try.prog (Op.equalIn (9998 + 2) 45 (by4 y0 y1 y2 y3) (.agg #[.int .u8 0, .int .u8 0, .int .u8 0, .int .u8 0])) w = .ok (decide (y0 = 0 ∧ y1 = 0 ∧ y2 = 0 ∧ y3 = 0)) w := by
  have hz : (sizeOf 5).run Try.prog w = .ok 1 w := by rfl
  rw [Op.equalIn, Sem.run_bind, run_underlying Try.underlying45]
  simp only [Result.andThen_ok, Sem.run_bind, hz]
  rw [Std.Legacy.Range.forIn_eq_forIn_range']
  simp only [Std.Legacy.Range.size, Nat.sub_zero, Nat.add_sub_cancel, Nat.div_one, ← List.range_eq_range']
  rw [show List.range 4 = [0, 1, 2, 3] from rfl]
  by_cases h0 : y0 = 0
  case neg => rw [decide_eq_false (fun e => h0 e.1)]; go_simp
  subst h0
  by_cases h1 : y1 = 0
  case neg => rw [decide_eq_false (fun e => h1 e.2.1)]; go_simp
  subst h1
  by_cases h2 : y2 = 0
  case neg => rw [decide_eq_false (fun e => h2 e.2.2.1)]; go_simp
  subst h2
  by_cases h3 : y3 = 0
  case neg => rw [decide_eq_false (fun e => h3 e.2.2.2)]; go_simp
  subst h3
  rw [decide_eq_true ⟨rfl, rfl, rfl, rfl⟩]; go_simp
set_option maxRecDepth 100000 in
theorem eql_by4 (y0 y1 y2 y3 : Nat) (w : World) : Sem.run Try.prog (binOp .eql 45 (by4 y0 y1 y2 y3) (.agg #[.int .u8 0, .int .u8 0, .int .u8 0, .int .u8 0])) w = .ok (.bool (decide (y0 = 0 ∧ y1 = 0 ∧ y2 = 0 ∧ y3 = 0))) w := by
  have e := eqIn4 y0 y1 y2 y3 w
  obtain ⟨Z, hZ⟩ : ∃ z, decide (y0 = 0 ∧ y1 = 0 ∧ y2 = 0 ∧ y3 = 0) = z := ⟨_, rfl⟩
  rw [hZ] at e ⊢
  first | (go_simp; done) | (go_simp; rw [show (10000 : Nat) = 9998 + 2 from rfl, e])
set_option maxRecDepth 100000 in
theorem eqg_by4 (p q : Operand) (y0 y1 y2 y3 : Nat) (w : World) : Sem.run Try.prog (eqGuard .eql 45 p q (by4 y0 y1 y2 y3) (.agg #[.int .u8 0, .int .u8 0, .int .u8 0, .int .u8 0])) w = .ok () w := by
  go_simp
theorem rd_setF {B : Nat} {w w' : World} {b o n c : Nat} {l : List Nat} (R : RdB w (.slice (some ⟨b, o, none⟩) n c) l) (hb : b < B) (h : Below B w w') : RdB w' (.slice (some ⟨b, o, none⟩) n c) l := by
  obtain ⟨hy, ao, cap, e, hc, H⟩ := R
  refine ⟨hy, ao, cap, e, hc, fun j hj => ?_⟩
  obtain ⟨b', o', e', hb', hv⟩ := H j hj
  have e2 : b' = b := by rw [e'] at e; cases e; rfl
  subst e2
  exact ⟨b', o', e', Nat.lt_of_lt_of_le hb' h.size, (World.cell?_of_block (a := ⟨b', o' + j, none⟩) (h.block b' hb)).trans hv⟩
theorem OwnR.head {w : World} {B : Nat} {v : Value} {xs : List Nat} (h : OwnR w B v xs) (hp : 0 < xs.length) : ∃ g cap, v = .slice (some ⟨g, 0, none⟩) xs.length cap ∧ B ≤ g ∧ g < w.heap.size ∧ xs.length ≤ cap ∧ (∀ j, j < xs.length → w.cell? ⟨g, j, none⟩ = some (.int .u8 ((xs.getD j 0 : Nat) : Int))) ∧ ∀ j, w.frozen? ⟨g, j, none⟩ = false := by
  obtain ⟨hy, hl, ⟨_, h0⟩ | ⟨g, cap, cur, rfl, hB, hg, hc, hm, hs, ht⟩⟩ := h
  · omega
  · have own : w.ownsRow B 5 1 (.slice (some ⟨g, 0, none⟩) xs.length cap) xs.length (xs.map fun (c : Nat) => Value.int .u8 (c : Int)) := ⟨hl, .inr ⟨g, cap, cur, rfl, hB, hg, hc, hm, hs, ht⟩⟩
    refine ⟨g, cap, rfl, hB, (Array.getElem?_eq_some_iff.1 hg).1, hc, fun j hj => ?_, fun j => own.frozenAt j⟩
    rw [own.cellAt j (by omega), List.getElem?_map, List.getElem?_eq_getElem hj, List.getD_eq_getElem?_getD, List.getElem?_eq_getElem hj]; rfl
theorem OwnR.store {w : World} {B g cap : Nat} {n : Nat} {xs : List Nat} (h : OwnR w B (.slice (some ⟨g, 0, none⟩) n cap) xs) (k c : Nat) (hc : c < 256) : OwnR (w.setCell ⟨g, k, none⟩ (.int .u8 (c : Int))) B (.slice (some ⟨g, 0, none⟩) n cap) (xs.set k c) := by
  obtain ⟨hy, ho⟩ := h
  have hn : n = xs.length := by
    obtain ⟨hl, ⟨e, _⟩ | ⟨_, _, _, e, _⟩⟩ := ho
    · cases e
    · cases e; rfl
  subst hn
  refine ⟨fun z hz => ?_, ?_⟩
  · rcases List.mem_or_eq_of_mem_set hz with hz | rfl
    · exact hy z hz
    · exact hc
  · have := ho.stored k (.int .u8 (c : Int))
    rw [List.length_set]
    rw [List.map_set]
    exact this.1
theorem append_copy {w : World} {ad : Addr} {cap : Nat} {l : List Nat} (R : RdB w (.slice (some ad) l.length cap) l) (hp : 0 < l.length) (hl : l.length ≤ 1000000) :
    ∃ v' w', (Builtin.append_ #[30, 30] 30 #[.slice (some ⟨w.heap.size, 0, none⟩) 0 0, .slice (some ad) l.length cap]).run Try.prog (w.alloc (Obj.cells #[] 5)) = .ok v' w' ∧ OwnR w' (w.heap.size + 1) v' l ∧ Below w.heap.size w w' := by
  have hb : Below w.heap.size w (w.alloc (Obj.cells #[] 5)) := (Below.refl _ _).alloc (Nat.le_refl _) _
  have R' := R.below hb
  obtain ⟨hy, ao, c, e, hc, H⟩ := R'
  cases e
  obtain ⟨v', w', hr, ho, hb'⟩ := append_full (w := w.alloc (Obj.cells #[] 5)) (v := .slice (some ⟨w.heap.size, 0, none⟩) 0 0) (xs := []) ⟨(fun c hc => by cases hc), w.heap.size, rfl, by simp, fun j hj => absurd hj (Nat.not_lt_zero _)⟩ (by simp) ad cap l hy hp hl (fun j u hj => by
    rw [List.getElem?_map] at hj
    by_cases hjl : j < l.length
    · rw [List.getElem?_eq_getElem hjl] at hj
      obtain rfl := Option.some.inj hj
      obtain ⟨b, o, e, _, hv⟩ := H j hjl
      cases e
      rw [Addr.add_lit, hv, List.getD_eq_getElem?_getD, List.getElem?_eq_getElem hjl]; rfl
    · rw [List.getElem?_eq_none (by omega)] at hj; cases hj)
  refine ⟨v', w', hr, ?_, hb.trans (hb'.mono (by simp))⟩
  have e : (w.alloc (Obj.cells #[] 5)).heap.size = w.heap.size + 1 := by simp
  rw [e, List.nil_append] at ho; exact ho
set_option maxRecDepth 100000 in
set_option maxHeartbeats 8000000 in
theorem frameBack_f (k s bo sq st ds ta tb wh wn x y a b d at' : Int) (z y0 y1 y2 y3 : Nat) (hm : mayF ⟨k, s, bo, sq, st, ds, ta, tb, wh, wn, x, y, a, b, d⟩ = false) (w : World) :
    Calls Try.prog 5 #[frC k s bo sq st ds ta tb wh wn x y a b d, .int .i64 at', .int .u8 (z : Int), by4 y0 y1 y2 y3] w fun e w' => e = .returned (.bool true) ∧ Below w.heap.size w w' := by
  have HM := Lib.hid hm
  clear hm
  go_enter Try.func5, Try.ntmps5
  go_wp2_with fail
  refine Calls.mono (encode_no ⟨k, s, bo, sq, st, ds, ta, tb, wh, wn, x, y, a, b, d⟩ HM.out _) ?_; rintro e w1 ⟨rfl, hb1⟩; have z_w1 := hb1.size; (try simp at z_w1); obtain ⟨y_w1_0_0, c_w1_0_0, f_w1_0_0, r_w1_0_0, t_w1_0_0, p_w1_0_0⟩ := bk hb1 (w.heap.size) (by first | omega | (simp; done) | (simp; omega) | fail); obtain ⟨y_w1_0_1, c_w1_0_1, f_w1_0_1, r_w1_0_1, t_w1_0_1, p_w1_0_1⟩ := bk hb1 (w.heap.size + 1) (by first | omega | (simp; done) | (simp; omega) | fail)
  go_wp2_with fail
  refine Calls.mono (framemay_v ⟨k, s, bo, sq, st, ds, ta, tb, wh, wn, x, y, a, b, d⟩ _ HM.out _) ?_; rintro e w2 ⟨rfl, hb2⟩; have z_w2 := hb2.size; (try simp at z_w2); obtain ⟨y_w2_0_0, c_w2_0_0, f_w2_0_0, r_w2_0_0, t_w2_0_0, p_w2_0_0⟩ := bk hb2 (w.heap.size) (by first | omega | (simp; done) | (simp; omega) | fail); obtain ⟨y_w2_0_1, c_w2_0_1, f_w2_0_1, r_w2_0_1, t_w2_0_1, p_w2_0_1⟩ := bk hb2 (w.heap.size + 1) (by first | omega | (simp; done) | (simp; omega) | fail)
  go_wp2_with fail
  refine Calls.mono (awake_c _) ?_; rintro e w3 ⟨rfl, hb3⟩; have z_w3 := hb3.size; (try simp at z_w3); obtain ⟨y_w3_0_0, c_w3_0_0, f_w3_0_0, r_w3_0_0, t_w3_0_0, p_w3_0_0⟩ := bk hb3 (w.heap.size) (by first | omega | (simp; done) | (simp; omega) | fail); obtain ⟨y_w3_0_1, c_w3_0_1, f_w3_0_1, r_w3_0_1, t_w3_0_1, p_w3_0_1⟩ := bk hb3 (w.heap.size + 1) (by first | omega | (simp; done) | (simp; omega) | fail)
  go_wp2_with fail
  go_ret
  exact ⟨rfl, (by repeat (first | with_reducible exact Below.refl _ _ | with_reducible exact Below_of_hid (by assumption) | with_reducible refine Below.drew ?_ | with_reducible refine below_drewN ?_ _ | (with_reducible refine Below_putRow ?_ ?hB _ _; case hB => (first | omega | (simp; done) | (simp; omega))) | (with_reducible refine Below.alloc ?_ ?hB _; case hB => (first | omega | (simp; done) | (simp; omega))) | (with_reducible refine Below.setCell ?_ ?hB _; case hB => (first | omega | (simp; done) | (simp; omega))) | (with_reducible refine Below.trans ?_ (Below.mono (by assumption) ?hB); case hB => (first | omega | (simp; done) | (simp; omega)))))⟩
set_option maxRecDepth 100000 in
set_option maxHeartbeats 16000000 in
theorem frameBack_t (k s bo sq st ds ta tb wh wn x y a b d at' : Int) (z y0 y1 y2 y3 : Nat) (hz : z < 256) (h0 : y0 < 256) (h1 : y1 < 256) (h2 : y2 < 256) (h3 : y3 < 256) (hm : mayF ⟨k, s, bo, sq, st, ds, ta, tb, wh, wn, x, y, a, b, d⟩ = true) (w : World) :
    Calls Try.prog 5 #[frC k s bo sq st ds ta tb wh wn x y a b d, .int .i64 at', .int .u8 (z : Int), by4 y0 y1 y2 y3] w fun e w' => e = .returned (.bool true) ∧ Below w.heap.size w w' := by
  obtain ⟨f, hf⟩ : ∃ f : FrD, f = ⟨k, s, bo, sq, st, ds, ta, tb, wh, wn, x, y, a, b, d⟩ := ⟨_, rfl⟩
  have HF := Lib.hid hf
  have HM : Hid (mayF f = true) := by rw [hf]; exact hm
  clear hf hm
  obtain ⟨i, hi, hil⟩ := u64_place at' 80 (by decide) (by decide)
  obtain ⟨p, hp, hpl⟩ := u64_place at' 73 (by decide) (by decide)
  have hi : wrap64 ((IntKind.u64.wrap at').tmod 80) = (i : Int) := hi
  have hp : wrap64 ((IntKind.u64.wrap at').tmod 73) = (p : Int) := hp
  go_enter Try.func5, Try.ntmps5
  go_wp2_with fail
  refine name_calls ?_; intro u0 hu0
  obtain ⟨b0, hb0⟩ : ∃ b0, b0 = w.heap.size := ⟨_, rfl⟩
  have HB : Hid (Below b0 w u0) := by rw [hu0, hb0]; show Below w.heap.size w _; exact (by repeat (first | with_reducible exact Below.refl _ _ | with_reducible exact Below_of_hid (by assumption) | with_reducible refine Below.drew ?_ | with_reducible refine below_drewN ?_ _ | (with_reducible refine Below_putRow ?_ ?hB _ _; case hB => (first | omega | (simp; done) | (simp; omega))) | (with_reducible refine Below.alloc ?_ ?hB _; case hB => (first | omega | (simp; done) | (simp; omega))) | (with_reducible refine Below.setCell ?_ ?hB _; case hB => (first | omega | (simp; done) | (simp; omega))) | (with_reducible refine Below.trans ?_ (Below.mono (by assumption) ?hB); case hB => (first | omega | (simp; done) | (simp; omega)))))
  have B0 : Hid (Blk u0 b0 #[.int .i64 k, .int .i64 s, .int .i64 bo, .int .i64 sq, .int .i64 st, .int .i64 ds, .int .i64 ta, .int .i64 tb, .int .i64 wh, .int .i64 wn, .int .i64 x, .int .i64 y, .int .i64 a, .int .i64 b, .int .i64 d] 29) := by rw [hu0, hb0]; exact (Blk.new _ _ _).alloc _
  have BY : Hid (Blk u0 (b0 + 1) #[.int .u8 (y0 : Int), .int .u8 (y1 : Int), .int .u8 (y2 : Int), .int .u8 (y3 : Int)] 45) := by rw [hu0, hb0]; exact Blk.new' _ _ _ (by simp)
  rw [← hb0]
  have HB0 := Lib.hid hb0
  have hs0 := BY.out.lt
  clear hu0 hb0
  refine Calls.mono (encode_x ⟨k, s, bo, sq, st, ds, ta, tb, wh, wn, x, y, a, b, d⟩ (by rw [← HF.out]; exact HM.out) _) ?_; rintro e w1 ⟨⟨ao, cap, rfl, ho⟩, hb1⟩
  rw [← HF.out] at ho
  have HO := ho.rd
  have hcap : 80 ≤ cap := by
    obtain ⟨_, _, _, e, hc, _⟩ := HO
    cases e; have := enc_len f; omega
  obtain ⟨bb, oo, rfl, hbl⟩ : ∃ b o, ao = some ⟨b, o, none⟩ ∧ b < w1.heap.size := by
    obtain ⟨_, ao', _, e, _, H⟩ := HO
    cases e
    obtain ⟨b, o, e, hb, _⟩ := H 0 (by rw [enc_len]; omega)
    exact ⟨b, o, e, hb⟩
  have HO := Lib.hid HO
  replace HB := Lib.hid (HB.out.trans (hb1.mono (by omega)))
  replace B0 := Lib.hid (B0.out.keep hb1)
  replace BY := Lib.hid (BY.out.keep hb1)
  clear hb1 ho
  have l1 := BY.out.lt
  go_wp2_with fail
  refine Calls.mono (decode_v _ _ _ _ (dec_enc _ HM.out) _ HO.out) ?_; rintro e w2 ⟨rfl, hb2⟩
  rw [HF.out]
  replace HB := Lib.hid (HB.out.trans (hb2.mono (by omega)))
  replace B0 := Lib.hid (B0.out.keep hb2)
  replace BY := Lib.hid (BY.out.keep hb2)
  replace HO := Lib.hid (HO.out.below hb2)
  replace hbl := Nat.lt_of_lt_of_le hbl hb2.size
  clear hb2 l1
  have l1 := BY.out.lt
  have rw0 := B0.out.row?_all 15 rfl
  have q5 : ∀ w' : World, Sem.run Try.prog (binOp .neq 29 (frC k s bo sq st ds ta tb wh wn x y a b d) (frC k s bo sq st ds ta tb wh wn x y a b d)) w' = .ok (.bool false) w' := fun w' => by rw [neq_fr, ← HF.out]; simp
  have q6 : ∀ (p q : Operand) (w' : World), Sem.run Try.prog (eqGuard .neq 29 p q (frC k s bo sq st ds ta tb wh wn x y a b d) (frC k s bo sq st ds ta tb wh wn x y a b d)) w' = .ok () w' := fun p q w' => eqg_fr .neq p q ⟨k, s, bo, sq, st, ds, ta, tb, wh, wn, x, y, a, b, d⟩ ⟨k, s, bo, sq, st, ds, ta, tb, wh, wn, x, y, a, b, d⟩ w'
  have l0 := B0.out.lt
  go_wp2_with fail
  refine name_calls ?_; intro u2 hu2
  have hbA : Below w2.heap.size w2 u2 := by rw [hu2]; exact (by repeat (first | with_reducible exact Below.refl _ _ | with_reducible exact Below_of_hid (by assumption) | with_reducible refine Below.drew ?_ | with_reducible refine below_drewN ?_ _ | (with_reducible refine Below_putRow ?_ ?hB _ _; case hB => (first | omega | (simp; done) | (simp; omega))) | (with_reducible refine Below.alloc ?_ ?hB _; case hB => (first | omega | (simp; done) | (simp; omega))) | (with_reducible refine Below.setCell ?_ ?hB _; case hB => (first | omega | (simp; done) | (simp; omega))) | (with_reducible refine Below.trans ?_ (Below.mono (by assumption) ?hB); case hB => (first | omega | (simp; done) | (simp; omega)))))
  replace HB := Lib.hid (HB.out.trans (hbA.mono (by omega)))
  replace BY := Lib.hid (BY.out.keep hbA)
  replace HO := Lib.hid (HO.out.below hbA)
  replace hbl := Nat.lt_of_lt_of_le hbl hbA.size
  replace l1 := BY.out.lt
  clear hu2 hbA rw0 q5 q6 l0 B0
  refine Calls.mono (framemay_v ⟨k, s, bo, sq, st, ds, ta, tb, wh, wn, x, y, a, b, d⟩ true (by rw [← HF.out]; exact HM.out) _) ?_; rintro e w3 ⟨rfl, hb3⟩
  replace HB := Lib.hid (HB.out.trans (hb3.mono (by omega)))
  replace BY := Lib.hid (BY.out.keep hb3)
  replace HO := Lib.hid (HO.out.below hb3)
  replace hbl := Nat.lt_of_lt_of_le hbl hb3.size
  clear hb3
  replace l1 := BY.out.lt
  obtain ⟨v4, w4, hr4, ho4, hb4⟩ := append_copy (w := w3) (ad := ⟨bb, oo, none⟩) (cap := cap) (l := encL f) (by rw [enc_len]; exact HO.out) (by have := enc_len f; omega) (by have := enc_len f; omega)
  rw [enc_len] at hr4
  obtain ⟨g4, c4, rfl, hg4, hg4l, hc4, cl4, fz4⟩ := ho4.head (by have := enc_len f; omega)
  rw [enc_len] at hr4 ho4 hc4 cl4
  have hr4 := Lib.hid hr4
  have ho4 := Lib.hid ho4
  have hck := cl4 i hil
  obtain ⟨ei, hei⟩ : ∃ e, (encL f).getD i 0 = e := ⟨_, rfl⟩
  have heil : ei < 256 := by rw [← hei]; exact byt_getD (enc_byt f) i
  rw [hei] at hck
  have hxr := u8_xor_nat ei z heil hz
  have hex : ei ^^^ z < 256 := Nat.xor_lt_two_pow (n := 8) heil hz
  have HC := Lib.hid (one_byte f HM.out i z hil hz)
  rw [hei] at HC
  have ii : (i : Int) < 80 := by omega
  have ig : g4 < w4.heap.size := hg4l
  obtain ⟨⟨F5, n5⟩, hd5⟩ : ∃ z', decE ((encL f).set i (ei ^^^ z)) = z' := ⟨_, rfl⟩
  rw [hd5] at HC
  have HD5 := Lib.hid hd5
  clear hd5 hei cl4
  go_wp2_with (at_builtin; refine wpList_append_run rfl _ _ 30 rfl hr4.out rfl rfl ?_)
  refine name_calls ?_; intro u5 hu5
  have ho5 : OwnR u5 (w3.heap.size + 1) (.slice (some ⟨g4, 0, none⟩) 80 c4) ((encL f).set i (ei ^^^ z)) := by rw [hu5]; exact ho4.out.store i (ei ^^^ z) hex
  have hb5 : Below w3.heap.size w3 u5 := by rw [hu5]; exact hb4.setCell (by show w3.heap.size ≤ g4; omega) _
  replace HB := Lib.hid (HB.out.trans (hb5.mono (by omega)))
  replace BY := Lib.hid (BY.out.keep hb5)
  replace HO := Lib.hid (HO.out.below hb5)
  replace hbl := Nat.lt_of_lt_of_le hbl hb5.size
  have l5 := hb5.size
  have ig5 : g4 < u5.heap.size := by rw [hu5, World.size_setCell]; exact hg4l
  clear hu5 hb5 hr4 ho4 hck fz4 hi hxr
  refine Calls.mono (decode_v _ _ _ _ HD5.out _ ho5.rd) ?_; rintro e w6 ⟨rfl, hb6⟩
  replace HB := Lib.hid (HB.out.trans (hb6.mono (by omega)))
  replace BY := Lib.hid (BY.out.keep hb6)
  replace HO := Lib.hid (HO.out.below hb6)
  replace hbl := Nat.lt_of_lt_of_le hbl hb6.size
  have l6 := hb6.size
  have hq : ((n5 == 0) == ((z : Int) == 0)) = true := by rw [HC.out]; simp
  clear hb6 HC ho5 hg4l ig ig5
  have hbA : Below w6.heap.size w6 (w6.alloc (Obj.cells #[.int .i64 F5.kind, .int .i64 F5.src, .int .i64 F5.boot, .int .i64 F5.seq, .int .i64 F5.stamp, .int .i64 F5.dst, .int .i64 F5.t1, .int .i64 F5.t2, .int .i64 F5.who, .int .i64 F5.when, .int .i64 F5.x, .int .i64 F5.y, .int .i64 F5.a, .int .i64 F5.b, .int .i64 F5.d] 29)) := (Below.refl _ _).alloc (Nat.le_refl _) _
  obtain ⟨w7, hw7⟩ : ∃ w7, w7 = w6.alloc (Obj.cells #[.int .i64 F5.kind, .int .i64 F5.src, .int .i64 F5.boot, .int .i64 F5.seq, .int .i64 F5.stamp, .int .i64 F5.dst, .int .i64 F5.t1, .int .i64 F5.t2, .int .i64 F5.who, .int .i64 F5.when, .int .i64 F5.x, .int .i64 F5.y, .int .i64 F5.a, .int .i64 F5.b, .int .i64 F5.d] 29) := ⟨_, rfl⟩
  rw [← hw7] at hbA
  have hO7 : RdB w7 (.slice (some ⟨bb, oo, none⟩) 80 cap) (encL f) := HO.out.below hbA
  obtain ⟨v8, w8, hr8, ho8, hb8⟩ := append_copy (w := w7) (ad := ⟨bb, oo, none⟩) (cap := cap) (l := encL f) (by rw [enc_len]; exact hO7) (by have := enc_len f; omega) (by have := enc_len f; omega)
  rw [enc_len] at hr8
  obtain ⟨g8, c8, rfl, hg8, hg8l, hc8, cl8, fz8⟩ := ho8.head (by have := enc_len f; omega)
  rw [enc_len] at hr8 ho8 hc8
  have hz7 : w7.heap.size = w6.heap.size + 1 := by rw [hw7]; simp
  replace HB := Lib.hid ((HB.out.trans (hbA.mono (by omega))).trans (hb8.mono (by omega)))
  replace BY := Lib.hid ((BY.out.keep hbA).keep hb8)
  replace HO := Lib.hid ((HO.out.below hbA).below hb8)
  have hr8 := Lib.hid hr8
  rw [hw7] at hr8
  simp only [World.size_alloc] at hr8
  clear hbA hO7
  go_wp2_with (at_builtin; refine wpList_append_run rfl _ _ 30 rfl hr8.out rfl rfl ?_)
  obtain ⟨Y, hY⟩ : ∃ Y : Nat → Nat, Y = fun j => [y0, y1, y2, y3].getD j 0 := ⟨_, rfl⟩
  have hYl : Hid (∀ j, Y j < 256) := by
    intro j
    rw [hY]
    rcases j with _ | _ | _ | _ | j
    · exact h0
    · exact h1
    · exact h2
    · exact h3
    · show 0 < 256; omega
  have hY4 : Hid (Y 0 = y0 ∧ Y 1 = y1 ∧ Y 2 = y2 ∧ Y 3 = y3) := by rw [hY]; exact ⟨rfl, rfl, rfl, rfl⟩
  have BYj : Hid (∀ j, j < 4 → ∀ w', Blk w' (b0 + 1) #[.int .u8 (y0 : Int), .int .u8 (y1 : Int), .int .u8 (y2 : Int), .int .u8 (y3 : Int)] 45 → w'.cell? ⟨b0 + 1, j, none⟩ = some (.int .u8 ((Y j : Nat) : Int))) := by
    intro j hj w' B
    rw [hY]
    rcases j with _ | _ | _ | _ | j
    · exact B.cell rfl
    · exact B.cell rfl
    · exact B.cell rfl
    · exact B.cell rfl
    · omega
  have L8 := BY.out.lt
  have LE := Lib.hid (enc_len f)
  clear hY hr8 hw7 hq HD5 cl8 fz8
  go_loopw [95] (fun t95 wr => ∃ j : Nat, j ≤ 4 ∧ t95 = .int .i64 j ∧ Hid (OwnR wr (w7.heap.size + 1) (.slice (some ⟨g8, 0, none⟩) 80 c8) (x4 (encL f) p Y j)) ∧ Hid (Below w7.heap.size w8 wr)) (fun t95 _ => 4 - (intOf t95).toNat)
  case atStart => exact ⟨0, by omega, rfl, ho8, Below.refl _ _⟩
  case round =>
    obtain ⟨j, hj, rfl, hO, hBr⟩ := hrel
    have lb0 : b0 + 1 < w7.heap.size := by omega
    have lbb : bb < w7.heap.size := by omega
    have BYr := Lib.hid (BY.out.below hBr.out lb0)
    have lwr := hBr.out.size
    by_cases hlt : j < 4
    · obtain ⟨g', c', e, -, hgl, -, cl, fz⟩ := hO.out.head (by rw [x4_len]; have := LE.out; omega)
      simp only [Value.slice.injEq, Option.some.injEq, Addr.mk.injEq] at e
      obtain ⟨⟨rfl, -, -⟩, -, -⟩ := e
      have hcj := cl (p + j) (by rw [x4_len]; have := LE.out; omega)
      have hyj := BYj.out j hlt wr BYr.out
      have hxe : x4 (encL f) p Y (j + 1) = (x4 (encL f) p Y j).set (p + j) ((x4 (encL f) p Y j).getD (p + j) 0 ^^^ Y j) := rfl
      have hel := byt_getD hO.out.1 (p + j)
      have hYj := hYl.out j
      obtain ⟨ej, hej⟩ : ∃ e, (x4 (encL f) p Y j).getD (p + j) 0 = e := ⟨_, rfl⟩
      obtain ⟨yj, hyj'⟩ : ∃ e, Y j = e := ⟨_, rfl⟩
      rw [hej] at hcj hxe hel
      rw [hyj'] at hyj hxe hYj
      have hxr := u8_xor_nat ej yj hel hYj
      have hex : ej ^^^ yj < 256 := Nat.xor_lt_two_pow (n := 8) hel hYj
      have HX := Lib.hid hxe
      have pj : (p : Int) + (j : Int) < 80 := by omega
      have lg8 : g8 < wr.heap.size := hgl
      have ng : ¬ b0 + 1 = g8 := by omega
      clear cl hej hyj' hxe BYj hYl hY4
      go_wp2_with fail
      go_region
      go_wp2_with fail
      go_roundw
      case rel => exact ⟨j + 1, by omega, by go_num, by show OwnR _ _ _ _; rw [HX.out]; exact (hO.out.store (p + j) (ej ^^^ yj) hex).keep (Below.refl _ _).drew, by show Below _ _ _; exact (hBr.out.setCell (by show w7.heap.size ≤ g8; omega) _).drew⟩
      case measure => first | (simp [intOf]; done) | (simp [intOf]; omega)
    · have h4 : j = 4 := by omega
      subst h4
      have HC := Lib.hid (four_bytes f HM.out p (by omega) Y hYl.out)
      have hrd := hO.out.rd
      have hO9 := Lib.hid (rd_setF HO.out lbb hBr.out)
      obtain ⟨X4, hX4⟩ : ∃ X, X = x4 (encL f) p Y 4 := ⟨_, rfl⟩
      rw [← hX4] at HC hrd
      obtain ⟨⟨F9, n9⟩, hd9⟩ : ∃ z', decE X4 = z' := ⟨_, rfl⟩
      rw [hd9] at HC
      have HD9 := Lib.hid hd9
      have HRD := Lib.hid hrd
      clear hd9 hrd hO hX4 BYj
      go_wp2_with fail
      refine Calls.mono (decode_v _ _ _ _ HD9.out _ HRD.out) ?_; rintro e w10 ⟨rfl, hb10⟩
      replace HB := Lib.hid ((HB.out.trans (hBr.out.mono (by omega))).trans (hb10.mono (by omega)))
      replace BYr := Lib.hid (BYr.out.keep hb10)
      replace hO9 := Lib.hid (hO9.out.below hb10)
      have hz10 := hb10.size
      clear hb10 HRD hBr
      have h79 : RdB w10 (.slice (some ⟨bb, oo, none⟩) 79 cap) ((encL f).take 79) := RdB.cutL (by rw [enc_len]; exact hO9.out) 79 cap (by rw [enc_len]; omega) (by omega)
      have H79 := Lib.hid h79
      have c79 : (79 : Int) ≤ (cap : Int) := by omega
      clear h79
      go_wp2_with fail
      refine name_calls ?_; intro u11 hu11
      have hbA : Below w10.heap.size w10 u11 := by rw [hu11]; exact (by repeat (first | with_reducible exact Below.refl _ _ | with_reducible exact Below_of_hid (by assumption) | with_reducible refine Below.drew ?_ | with_reducible refine below_drewN ?_ _ | (with_reducible refine Below_putRow ?_ ?hB _ _; case hB => (first | omega | (simp; done) | (simp; omega))) | (with_reducible refine Below.alloc ?_ ?hB _; case hB => (first | omega | (simp; done) | (simp; omega))) | (with_reducible refine Below.setCell ?_ ?hB _; case hB => (first | omega | (simp; done) | (simp; omega))) | (with_reducible refine Below.trans ?_ (Below.mono (by assumption) ?hB); case hB => (first | omega | (simp; done) | (simp; omega)))))
      replace HB := Lib.hid (HB.out.trans (hbA.mono (by omega)))
      replace BYr := Lib.hid (BYr.out.keep hbA)
      replace H79 := Lib.hid (H79.out.below hbA)
      have hz11 := hbA.size
      clear hu11 hbA
      refine Calls.mono (decode_short _ _ _ H79.out (by rw [List.length_take]; omega)) ?_; rintro e w12 ⟨rfl, hb12⟩
      replace HB := Lib.hid (HB.out.trans (hb12.mono (by omega)))
      replace BYr := Lib.hid (BYr.out.keep hb12)
      have hz12 := hb12.size
      clear hb12 H79
      have l12 := BYr.out.lt
      have r0 : w12.cell? ⟨b0 + 1, 0, none⟩ = some (.int .u8 (y0 : Int)) := BYr.out.cell rfl
      have r1 : w12.cell? ⟨b0 + 1, 1, none⟩ = some (.int .u8 (y1 : Int)) := BYr.out.cell rfl
      have r2 : w12.cell? ⟨b0 + 1, 2, none⟩ = some (.int .u8 (y2 : Int)) := BYr.out.cell rfl
      have r3 : w12.cell? ⟨b0 + 1, 3, none⟩ = some (.int .u8 (y3 : Int)) := BYr.out.cell rfl
      obtain ⟨Z4, hZ4⟩ : ∃ z, decide (y0 = 0 ∧ y1 = 0 ∧ y2 = 0 ∧ y3 = 0) = z := ⟨_, rfl⟩
      have q7 : ∀ w' : World, Sem.run Try.prog (binOp .eql 45 (.agg #[.int .u8 (y0 : Int), .int .u8 (y1 : Int), .int .u8 (y2 : Int), .int .u8 (y3 : Int)]) (.agg #[.int .u8 0, .int .u8 0, .int .u8 0, .int .u8 0])) w' = .ok (.bool Z4) w' := fun w' => by rw [← hZ4]; exact eql_by4 y0 y1 y2 y3 w'
      have q8 : ∀ (p q : Operand) (w' : World), Sem.run Try.prog (eqGuard .eql 45 p q (.agg #[.int .u8 (y0 : Int), .int .u8 (y1 : Int), .int .u8 (y2 : Int), .int .u8 (y3 : Int)]) (.agg #[.int .u8 0, .int .u8 0, .int .u8 0, .int .u8 0])) w' = .ok () w' := fun p q w' => eqg_by4 p q y0 y1 y2 y3 w'
      have hq9 : ((n9 == 0) == Z4) = true := by
        have e := HC.out
        rw [hY4.out.1, hY4.out.2.1, hY4.out.2.2.1, hY4.out.2.2.2, hZ4] at e
        rw [e]; simp
      clear hZ4 HC
      go_wp2_with fail
      refine Calls.mono (awake_c _) ?_; rintro e w13 ⟨rfl, hb13⟩
      have hz13 : w12.heap.size ≤ w13.heap.size := by have := hb13.size; simp at this; omega
      have hb13' : Below w12.heap.size w12 w13 := ((Below.refl _ _).alloc (Nat.le_refl _) _).trans (hb13.mono (by simp))
      go_wp2_with fail
      go_ret
      exact ⟨rfl, by rw [← HB0.out]; exact HB.out.trans (hb13'.mono (by omega))⟩
theorem frameBack_c (k s bo sq st ds ta tb wh wn x y a b d at' z' m0 m1 m2 m3 : Int) (hz : 0 ≤ z' ∧ z' < 256) (h0 : 0 ≤ m0 ∧ m0 < 256) (h1 : 0 ≤ m1 ∧ m1 < 256) (h2 : 0 ≤ m2 ∧ m2 < 256) (h3 : 0 ≤ m3 ∧ m3 < 256) (w : World) :
    Calls Try.prog 5 #[frC k s bo sq st ds ta tb wh wn x y a b d, .int .i64 at', .int .u8 z', .agg #[.int .u8 m0, .int .u8 m1, .int .u8 m2, .int .u8 m3]] w fun e w' => e = .returned (.bool true) ∧ Below w.heap.size w w' := by
  obtain ⟨z, rfl⟩ : ∃ z : Nat, z' = (z : Int) := ⟨z'.toNat, by omega⟩
  obtain ⟨y0, rfl⟩ : ∃ z : Nat, m0 = (z : Int) := ⟨m0.toNat, by omega⟩
  obtain ⟨y1, rfl⟩ : ∃ z : Nat, m1 = (z : Int) := ⟨m1.toNat, by omega⟩
  obtain ⟨y2, rfl⟩ : ∃ z : Nat, m2 = (z : Int) := ⟨m2.toNat, by omega⟩
  obtain ⟨y3, rfl⟩ : ∃ z : Nat, m3 = (z : Int) := ⟨m3.toNat, by omega⟩
  cases hm : mayF ⟨k, s, bo, sq, st, ds, ta, tb, wh, wn, x, y, a, b, d⟩ with
  | false => exact frameBack_f _ _ _ _ _ _ _ _ _ _ _ _ _ _ _ _ _ _ _ _ _ hm _
  | true => exact frameBack_t _ _ _ _ _ _ _ _ _ _ _ _ _ _ _ _ _ _ _ _ _ (by omega) (by omega) (by omega) (by omega) (by omega) hm _
end Go.Proofs.Ytdipecepgfaokaa
