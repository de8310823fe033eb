/- The walk of alidadelaw13.FrameApart. -/
import Derived.Test.YtdipecepgfaokaaN15
import Derived.Test.YtdipecepgfaokaaBA
namespace Go.Proofs.Ytdipecepgfaokaa
set_option linter.unusedSimpArgs false
set_option linter.unusedVariables false
open Go.RowKit

set_option maxRecDepth 100000 in
set_option maxHeartbeats 8000000 in
theorem frameApart_c (k s bo sq st ds ta tb wh wn x y a b d k' s' bo' sq' st' ds' ta' tb' wh' wn' x' y' a' b' d' : Int) (w : World) :
    Calls Try.prog 7 #[frC k s bo sq st ds ta tb wh wn x y a b d, frC k' s' bo' sq' st' ds' ta' tb' wh' wn' x' y' a' b' d'] w fun e w' => e = .returned (.bool true) ∧ Below w.heap.size w w' := by
  obtain ⟨f, hf⟩ : ∃ f : FrD, f = ⟨k, s, bo, sq, st, ds, ta, tb, wh, wn, x, y, a, b, d⟩ := ⟨_, rfl⟩
  obtain ⟨g, hg⟩ : ∃ f : FrD, f = ⟨k', s', bo', sq', st', ds', ta', tb', wh', wn', x', y', a', b', d'⟩ := ⟨_, rfl⟩
  obtain ⟨m, hm⟩ : ∃ m, mayF f = m := ⟨_, rfl⟩
  obtain ⟨n, hn⟩ : ∃ m, mayF g = m := ⟨_, rfl⟩
  have HF := Lib.hid hf
  have HG := Lib.hid hg
  clear hf hg
  cases m with
  | false =>
    go_enter Try.func7, Try.ntmps7
    go_wp2_with fail
    refine Calls.mono (encode_no ⟨k, s, bo, sq, st, ds, ta, tb, wh, wn, x, y, a, b, d⟩ (by rw [← HF.out]; exact hm) _) ?_; rintro e w1 ⟨rfl, hb1⟩; have z_w1 := hb1.size; (try simp at z_w1); obtain ⟨y_w1_0_0, c_w1_0_0, f_w1_0_0, r_w1_0_0, t_w1_0_0, p_w1_0_0⟩ := bk hb1 (w.heap.size) (by first | omega | (simp; done) | (simp; omega) | fail); obtain ⟨y_w1_0_1, c_w1_0_1, f_w1_0_1, r_w1_0_1, t_w1_0_1, p_w1_0_1⟩ := bk hb1 (w.heap.size + 1) (by first | omega | (simp; done) | (simp; omega) | fail)
    go_wp2_with fail
    cases n with
    | false =>
      refine Calls.mono (encode_no ⟨k', s', bo', sq', st', ds', ta', tb', wh', wn', x', y', a', b', d'⟩ (by rw [← HG.out]; exact hn) _) ?_; rintro e w2 ⟨rfl, hb2⟩; have z_w2 := hb2.size; (try simp at z_w2); obtain ⟨y_w2_0_0, c_w2_0_0, f_w2_0_0, r_w2_0_0, t_w2_0_0, p_w2_0_0⟩ := bk hb2 (w.heap.size) (by first | omega | (simp; done) | (simp; omega) | fail); obtain ⟨y_w2_0_1, c_w2_0_1, f_w2_0_1, r_w2_0_1, t_w2_0_1, p_w2_0_1⟩ := bk hb2 (w.heap.size + 1) (by first | omega | (simp; done) | (simp; omega) | fail)
      go_wp2_with fail
      refine Calls.mono (awake_c _) ?_; rintro e w3 ⟨rfl, hb3⟩; have z_w3 := hb3.size; (try simp at z_w3); obtain ⟨y_w3_0_0, c_w3_0_0, f_w3_0_0, r_w3_0_0, t_w3_0_0, p_w3_0_0⟩ := bk hb3 (w.heap.size) (by first | omega | (simp; done) | (simp; omega) | fail); obtain ⟨y_w3_0_1, c_w3_0_1, f_w3_0_1, r_w3_0_1, t_w3_0_1, p_w3_0_1⟩ := bk hb3 (w.heap.size + 1) (by first | omega | (simp; done) | (simp; omega) | fail)
      go_wp2_with fail
      go_ret
      exact ⟨rfl, (by repeat (first | with_reducible exact Below.refl _ _ | with_reducible exact Below_of_hid (by assumption) | with_reducible refine Below.drew ?_ | with_reducible refine below_drewN ?_ _ | (with_reducible refine Below_putRow ?_ ?hB _ _; case hB => (first | omega | (simp; done) | (simp; omega))) | (with_reducible refine Below.alloc ?_ ?hB _; case hB => (first | omega | (simp; done) | (simp; omega))) | (with_reducible refine Below.setCell ?_ ?hB _; case hB => (first | omega | (simp; done) | (simp; omega))) | (with_reducible refine Below.trans ?_ (Below.mono (by assumption) ?hB); case hB => (first | omega | (simp; done) | (simp; omega)))))⟩
    | true =>
      refine Calls.mono (encode_x ⟨k', s', bo', sq', st', ds', ta', tb', wh', wn', x', y', a', b', d'⟩ (by rw [← HG.out]; exact hn) _) ?_; rintro e w2 ⟨⟨ao, cap, rfl, ho⟩, hb2⟩; have z_w2 := hb2.size; (try simp at z_w2); obtain ⟨y_w2_0_0, c_w2_0_0, f_w2_0_0, r_w2_0_0, t_w2_0_0, p_w2_0_0⟩ := bk hb2 (w.heap.size) (by first | omega | (simp; done) | (simp; omega) | fail); obtain ⟨y_w2_0_1, c_w2_0_1, f_w2_0_1, r_w2_0_1, t_w2_0_1, p_w2_0_1⟩ := bk hb2 (w.heap.size + 1) (by first | omega | (simp; done) | (simp; omega) | fail)
      clear ho
      go_wp2_with fail
      refine Calls.mono (awake_c _) ?_; rintro e w3 ⟨rfl, hb3⟩; have z_w3 := hb3.size; (try simp at z_w3); obtain ⟨y_w3_0_0, c_w3_0_0, f_w3_0_0, r_w3_0_0, t_w3_0_0, p_w3_0_0⟩ := bk hb3 (w.heap.size) (by first | omega | (simp; done) | (simp; omega) | fail); obtain ⟨y_w3_0_1, c_w3_0_1, f_w3_0_1, r_w3_0_1, t_w3_0_1, p_w3_0_1⟩ := bk hb3 (w.heap.size + 1) (by first | omega | (simp; done) | (simp; omega) | fail)
      go_wp2_with fail
      go_ret
      exact ⟨rfl, (by repeat (first | with_reducible exact Below.refl _ _ | with_reducible exact Below_of_hid (by assumption) | with_reducible refine Below.drew ?_ | with_reducible refine below_drewN ?_ _ | (with_reducible refine Below_putRow ?_ ?hB _ _; case hB => (first | omega | (simp; done) | (simp; omega))) | (with_reducible refine Below.alloc ?_ ?hB _; case hB => (first | omega | (simp; done) | (simp; omega))) | (with_reducible refine Below.setCell ?_ ?hB _; case hB => (first | omega | (simp; done) | (simp; omega))) | (with_reducible refine Below.trans ?_ (Below.mono (by assumption) ?hB); case hB => (first | omega | (simp; done) | (simp; omega)))))⟩
  | true =>
    go_enter Try.func7, Try.ntmps7
    go_wp2_with fail
    refine name_calls ?_; intro u0 hu0
    obtain ⟨b0, hb0⟩ : ∃ b0, b0 = w.heap.size := ⟨_, rfl⟩
    have HB : Hid (Below b0 w u0) := by rw [hu0, hb0]; show Below w.heap.size w _; exact (by repeat (first | with_reducible exact Below.refl _ _ | with_reducible exact Below_of_hid (by assumption) | with_reducible refine Below.drew ?_ | with_reducible refine below_drewN ?_ _ | (with_reducible refine Below_putRow ?_ ?hB _ _; case hB => (first | omega | (simp; done) | (simp; omega))) | (with_reducible refine Below.alloc ?_ ?hB _; case hB => (first | omega | (simp; done) | (simp; omega))) | (with_reducible refine Below.setCell ?_ ?hB _; case hB => (first | omega | (simp; done) | (simp; omega))) | (with_reducible refine Below.trans ?_ (Below.mono (by assumption) ?hB); case hB => (first | omega | (simp; done) | (simp; omega)))))
    have B0 : Hid (Blk u0 b0 #[.int .i64 k, .int .i64 s, .int .i64 bo, .int .i64 sq, .int .i64 st, .int .i64 ds, .int .i64 ta, .int .i64 tb, .int .i64 wh, .int .i64 wn, .int .i64 x, .int .i64 y, .int .i64 a, .int .i64 b, .int .i64 d] 29) := by rw [hu0, hb0]; exact (Blk.new _ _ _).alloc _
    have B1 : Hid (Blk u0 (b0 + 1) #[.int .i64 k', .int .i64 s', .int .i64 bo', .int .i64 sq', .int .i64 st', .int .i64 ds', .int .i64 ta', .int .i64 tb', .int .i64 wh', .int .i64 wn', .int .i64 x', .int .i64 y', .int .i64 a', .int .i64 b', .int .i64 d'] 29) := by rw [hu0, hb0]; exact Blk.new' _ _ _ (by simp)
    rw [← hb0]
    have HB0 := Lib.hid hb0
    clear hu0 hb0
    refine Calls.mono (encode_x ⟨k, s, bo, sq, st, ds, ta, tb, wh, wn, x, y, a, b, d⟩ (by rw [← HF.out]; exact hm) _) ?_; rintro e w1 ⟨⟨ao, cap, rfl, ho⟩, hb1⟩
    have hs0 := B1.out.lt
    have HO := Lib.hid ho.rd
    replace HB := Lib.hid (HB.out.trans (hb1.mono (by omega)))
    replace B0 := Lib.hid (B0.out.keep hb1)
    replace B1 := Lib.hid (B1.out.keep hb1)
    clear hb1 ho hs0
    have rw1 := B1.out.row?_all 15 rfl
    have l1 := B1.out.lt
    go_wp2_with fail
    clear rw1
    cases n with
    | false =>
      refine Calls.mono (encode_no ⟨k', s', bo', sq', st', ds', ta', tb', wh', wn', x', y', a', b', d'⟩ (by rw [← HG.out]; exact hn) _) ?_; rintro e w2 ⟨rfl, hb2⟩
      replace HB := Lib.hid (HB.out.trans (hb2.mono (by omega)))
      go_wp2_with fail
      refine Calls.mono (awake_c _) ?_; rintro e w3 ⟨rfl, hb3⟩
      have hs2 := hb2.size
      replace HB := Lib.hid (HB.out.trans (hb3.mono (by omega)))
      go_wp2_with fail
      go_ret
      exact ⟨rfl, by rw [← HB0.out]; exact HB.out⟩
    | true =>
      refine Calls.mono (encode_x ⟨k', s', bo', sq', st', ds', ta', tb', wh', wn', x', y', a', b', d'⟩ (by rw [← HG.out]; exact hn) _) ?_; rintro e w2 ⟨⟨ao', cap', rfl, ho'⟩, hb2⟩
      have HO' := Lib.hid ho'.rd
      replace HB := Lib.hid (HB.out.trans (hb2.mono (by omega)))
      replace B0 := Lib.hid (B0.out.keep hb2)
      replace B1 := Lib.hid (B1.out.keep hb2)
      replace HO := Lib.hid (HO.out.below hb2)
      clear hb2 ho' l1
      have rw0 := B0.out.row?_all 15 rfl
      have rw1 := B1.out.row?_all 15 rfl
      have l1 := B1.out.lt
      have hE : (decide (encL f = encL g)) = decide (f = g) := by
        by_cases e : f = g
        · subst e; simp
        · rw [decide_eq_false e, decide_eq_false (fun h => e (enc_inj f g hm hn h))]
      obtain ⟨Z, hZ⟩ : ∃ z, decide (f = g) = z := ⟨_, rfl⟩
      have q1 : ∀ (d : Nat) (os : Array Obj), Sem.run Try.prog (convert 30 9 (.slice ao 80 cap)) (Go.Sort.grow (redrawn w2 d) os) = .ok (strB (encL f)) (Go.Sort.grow (redrawn w2 d) os) := fun d os => by rw [HF.out]; exact conv_rd (HO.out.below (below_of_regrown ⟨⟨d, os⟩, rfl⟩))
      have q2 : ∀ (d : Nat) (os : Array Obj), Sem.run Try.prog (convert 30 9 (.slice ao' 80 cap')) (Go.Sort.grow (redrawn w2 d) os) = .ok (strB (encL g)) (Go.Sort.grow (redrawn w2 d) os) := fun d os => by rw [HG.out]; exact conv_rd (HO'.out.below (below_of_regrown ⟨⟨d, os⟩, rfl⟩))
      have q3 : ∀ w' : World, Sem.run Try.prog (binOp .eql 9 (strB (encL f)) (strB (encL g))) w' = .ok (.bool Z) w' := fun w' => by rw [eql_strB _ _ (enc_byt f) (enc_byt g), hE, hZ]
      have q4 : ∀ (p q : Operand) (w' : World), Sem.run Try.prog (eqGuard .eql 9 p q (strB (encL f)) (strB (encL g))) w' = .ok () w' := fun p q w' => eqg_strB _ _ _ _ _ _ _
      have q5 : ∀ w' : World, Sem.run Try.prog (binOp .eql 29 (frC k s bo sq st ds ta tb wh wn x y a b d) (frC k' s' bo' sq' st' ds' ta' tb' wh' wn' x' y' a' b' d')) w' = .ok (.bool Z) w' := fun w' => by rw [eql_fr, ← HF.out, ← HG.out, hZ]
      have q6 : ∀ (p q : Operand) (w' : World), Sem.run Try.prog (eqGuard .eql 29 p q (frC k s bo sq st ds ta tb wh wn x y a b d) (frC k' s' bo' sq' st' ds' ta' tb' wh' wn' x' y' a' b' d')) w' = .ok () w' := fun p q w' => eqg_fr .eql p q ⟨k, s, bo, sq, st, ds, ta, tb, wh, wn, x, y, a, b, d⟩ ⟨k', s', bo', sq', st', ds', ta', tb', wh', wn', x', y', a', b', d'⟩ w'
      have q7 : ∀ (d1 : Nat) (os : Array Obj), (Go.Sort.grow (redrawn w2 d1) os).row? b0 0 15 = some _ := fun d1 os => (Below.row? (below_of_regrown ⟨⟨d1, os⟩, rfl⟩) b0 0 15 B0.out.lt).trans rw0
      have q8 : ∀ (d1 : Nat) (os : Array Obj), (Go.Sort.grow (redrawn w2 d1) os).row? (b0 + 1) 0 15 = some _ := fun d1 os => (Below.row? (below_of_regrown ⟨⟨d1, os⟩, rfl⟩) (b0 + 1) 0 15 B1.out.lt).trans rw1
      clear hE hZ hm hn rw0 rw1
      go_wp2_with fail
      refine wp_region_quiet_below (by kernel_rfl) (by kernel_rfl) ?_
      repeat (go_big_quiet_step (first
        | (go_at_call 12; exact Calls.regrown_of (by first | with_reducible exact awake_c _))))
      refine wpQuiet_nil ?_
      intro x9 hw
      have hb := below_of_regrown hw
      go_wp2_with fail
      go_ret
      exact ⟨rfl, by rw [← HB0.out]; exact HB.out.trans (hb.mono (by omega))⟩
end Go.Proofs.Ytdipecepgfaokaa
