/- The walk of alidadelaw13.FrameEncodes. -/
import Derived.Test.YtdipecepgfaokaaN15
import Derived.Test.YtdipecepgfaokaaN8
import Derived.Test.YtdipecepgfaokaaBA
namespace Go.Proofs.Ytdipecepgfaokaa
set_option linter.unusedSimpArgs false
set_option linter.unusedVariables false
open Go.RowKit

set_option maxRecDepth 100000 in
set_option maxHeartbeats 8000000 in
theorem frameEncodes_t (k s bo sq st ds ta tb wh wn x y a b d : Int) (hm : mayF ⟨k, s, bo, sq, st, ds, ta, tb, wh, wn, x, y, a, b, d⟩ = true) (w : World) :
    Calls Try.prog 3 #[frC k s bo sq st ds ta tb wh wn x y a b d] w fun e w' => e = .returned (.bool true) ∧ Below w.heap.size w w' := by
  have HM := Lib.hid hm
  clear hm
  go_enter Try.func3, Try.ntmps3
  go_wp2_with fail
  refine name_calls ?_; intro u0 hu0
  obtain ⟨b0, hb0⟩ : ∃ b0, b0 = w.heap.size := ⟨_, rfl⟩
  have HB : Hid (Below b0 w u0) := by rw [hu0, hb0]; show Below w.heap.size w _; exact (by repeat (first | with_reducible exact Below.refl _ _ | with_reducible exact Below_of_hid (by assumption) | with_reducible refine Below.drew ?_ | with_reducible refine below_drewN ?_ _ | (with_reducible refine Below_putRow ?_ ?hB _ _; case hB => (first | omega | (simp; done) | (simp; omega))) | (with_reducible refine Below.alloc ?_ ?hB _; case hB => (first | omega | (simp; done) | (simp; omega))) | (with_reducible refine Below.setCell ?_ ?hB _; case hB => (first | omega | (simp; done) | (simp; omega))) | (with_reducible refine Below.trans ?_ (Below.mono (by assumption) ?hB); case hB => (first | omega | (simp; done) | (simp; omega)))))
  have B0 : Hid (Blk u0 b0 #[.int .i64 k, .int .i64 s, .int .i64 bo, .int .i64 sq, .int .i64 st, .int .i64 ds, .int .i64 ta, .int .i64 tb, .int .i64 wh, .int .i64 wn, .int .i64 x, .int .i64 y, .int .i64 a, .int .i64 b, .int .i64 d] 29) := by rw [hu0, hb0]; exact Blk.new _ _ _
  rw [← hb0]
  have HB0 := Lib.hid hb0
  have hs0 := B0.out.lt
  clear hu0 hb0
  refine Calls.mono (encode_x ⟨k, s, bo, sq, st, ds, ta, tb, wh, wn, x, y, a, b, d⟩ HM.out _) ?_; rintro e w1 ⟨⟨ao, cap, rfl, ho⟩, hb1⟩
  have HO := Lib.hid ho.rd
  clear ho
  replace HB := Lib.hid (HB.out.trans (hb1.mono (by omega)))
  replace B0 := Lib.hid (B0.out.keep hb1)
  clear hb1 hs0
  have rw0 := B0.out.row?_all 15 rfl
  have l0 := B0.out.lt
  go_wp2_with fail
  refine Calls.mono (rencode_x ⟨k, s, bo, sq, st, ds, ta, tb, wh, wn, x, y, a, b, d⟩ HM.out _) ?_; rintro e w2 ⟨⟨ao', cap', rfl, ho'⟩, hb2⟩
  have HO' := Lib.hid ho'.rd
  replace HO := Lib.hid (HO.out.below hb2)
  clear ho'
  replace HB := Lib.hid (HB.out.trans (hb2.mono (by omega)))
  replace B0 := Lib.hid (B0.out.keep hb2)
  clear hb2 rw0 l0
  have l0 := B0.out.lt
  have q7 : ∀ (d1 : Nat) (os : Array Obj), (Go.Sort.grow (redrawn w2 d1) os).row? b0 0 15 = some #[.int .i64 k, .int .i64 s, .int .i64 bo, .int .i64 sq, .int .i64 st, .int .i64 ds, .int .i64 ta, .int .i64 tb, .int .i64 wh, .int .i64 wn, .int .i64 x, .int .i64 y, .int .i64 a, .int .i64 b, .int .i64 d] := fun d1 os => (Below.row? (below_of_regrown ⟨⟨d1, os⟩, rfl⟩) b0 0 15 B0.out.lt).trans (B0.out.row?_all 15 rfl)
  have q1 : ∀ (d1 : Nat) (os : Array Obj), Sem.run Try.prog (convert 30 9 (.slice ao 80 cap)) (Go.Sort.grow (redrawn w2 d1) os) = .ok (strB (encL ⟨k, s, bo, sq, st, ds, ta, tb, wh, wn, x, y, a, b, d⟩)) (Go.Sort.grow (redrawn w2 d1) os) := fun d1 os => conv_rd (HO.out.below (below_of_regrown ⟨⟨d1, os⟩, rfl⟩))
  have q2 : ∀ (d1 : Nat) (os : Array Obj), Sem.run Try.prog (convert 30 9 (.slice ao' 80 cap')) (Go.Sort.grow (redrawn w2 d1) os) = .ok (strB (encL ⟨k, s, bo, sq, st, ds, ta, tb, wh, wn, x, y, a, b, d⟩)) (Go.Sort.grow (redrawn w2 d1) os) := fun d1 os => conv_rd (HO'.out.below (below_of_regrown ⟨⟨d1, os⟩, rfl⟩))
  obtain ⟨E, hE⟩ : ∃ E, E = encL ⟨k, s, bo, sq, st, ds, ta, tb, wh, wn, x, y, a, b, d⟩ := ⟨_, rfl⟩
  have hyE : Byt E := by rw [hE]; exact enc_byt _
  rw [← hE] at q1 q2
  clear hE
  have q3 : ∀ w' : World, Sem.run Try.prog (binOp .eql 9 (strB E) (strB E)) w' = .ok (.bool true) w' := fun w' => by rw [eql_strB _ _ hyE hyE, decide_eq_true rfl]
  have q4 : ∀ (p q : Operand) (w' : World), Sem.run Try.prog (eqGuard .eql 9 p q (strB E) (strB E)) w' = .ok () w' := fun p q w' => eqg_strB _ _ _ _ _ _ _
  go_wp2_with fail
  refine wp_region_quiet_below (by kernel_rfl) (by kernel_rfl) ?_
  repeat (go_big_quiet_step (first
    | (go_at_call 10; exact Calls.regrown_of (by with_reducible exact framemay_v ⟨k, s, bo, sq, st, ds, ta, tb, wh, wn, x, y, a, b, d⟩ true HM.out _))
    | (go_at_call 11; exact Calls.regrown_of (by with_reducible exact rframemay_v ⟨k, s, bo, sq, st, ds, ta, tb, wh, wn, x, y, a, b, d⟩ true HM.out _))
    | (go_at_call 12; exact Calls.regrown_of (by with_reducible exact awake_c _))))
  refine wpQuiet_nil ?_
  intro x9 hw
  have hb := below_of_regrown hw
  go_wp2_with fail
  go_ret
  exact ⟨rfl, by rw [← HB0.out]; exact HB.out.trans (hb.mono (by omega))⟩
set_option maxRecDepth 100000 in
set_option maxHeartbeats 8000000 in
theorem frameEncodes_f (k s bo sq st ds ta tb wh wn x y a b d : Int) (hm : mayF ⟨k, s, bo, sq, st, ds, ta, tb, wh, wn, x, y, a, b, d⟩ = false) (w : World) :
    Calls Try.prog 3 #[frC k s bo sq st ds ta tb wh wn x y a b d] w fun e w' => e = .returned (.bool true) ∧ Below w.heap.size w w' := by
  have HM := Lib.hid hm
  clear hm
  go_enter Try.func3, Try.ntmps3
  go_wp2_with fail
  refine name_calls ?_; intro u0 hu0
  obtain ⟨b0, hb0⟩ : ∃ b0, b0 = w.heap.size := ⟨_, rfl⟩
  have HB : Hid (Below b0 w u0) := by rw [hu0, hb0]; show Below w.heap.size w _; exact (by repeat (first | with_reducible exact Below.refl _ _ | with_reducible exact Below_of_hid (by assumption) | with_reducible refine Below.drew ?_ | with_reducible refine below_drewN ?_ _ | (with_reducible refine Below_putRow ?_ ?hB _ _; case hB => (first | omega | (simp; done) | (simp; omega))) | (with_reducible refine Below.alloc ?_ ?hB _; case hB => (first | omega | (simp; done) | (simp; omega))) | (with_reducible refine Below.setCell ?_ ?hB _; case hB => (first | omega | (simp; done) | (simp; omega))) | (with_reducible refine Below.trans ?_ (Below.mono (by assumption) ?hB); case hB => (first | omega | (simp; done) | (simp; omega)))))
  have B0 : Hid (Blk u0 b0 #[.int .i64 k, .int .i64 s, .int .i64 bo, .int .i64 sq, .int .i64 st, .int .i64 ds, .int .i64 ta, .int .i64 tb, .int .i64 wh, .int .i64 wn, .int .i64 x, .int .i64 y, .int .i64 a, .int .i64 b, .int .i64 d] 29) := by rw [hu0, hb0]; exact Blk.new _ _ _
  rw [← hb0]
  have HB0 := Lib.hid hb0
  have hs0 := B0.out.lt
  clear hu0 hb0
  refine Calls.mono (encode_no ⟨k, s, bo, sq, st, ds, ta, tb, wh, wn, x, y, a, b, d⟩ HM.out _) ?_; rintro e w1 ⟨rfl, hb1⟩
  replace HB := Lib.hid (HB.out.trans (hb1.mono (by omega)))
  replace B0 := Lib.hid (B0.out.keep hb1)
  clear hb1 hs0
  have rw0 := B0.out.row?_all 15 rfl
  have l0 := B0.out.lt
  go_wp2_with fail
  refine Calls.mono (rencode_no ⟨k, s, bo, sq, st, ds, ta, tb, wh, wn, x, y, a, b, d⟩ HM.out _) ?_; rintro e w2 ⟨rfl, hb2⟩
  replace HB := Lib.hid (HB.out.trans (hb2.mono (by omega)))
  replace B0 := Lib.hid (B0.out.keep hb2)
  clear hb2 rw0 l0
  have l0 := B0.out.lt
  have q7 : ∀ (d1 : Nat) (os : Array Obj), (Go.Sort.grow (redrawn w2 d1) os).row? b0 0 15 = some #[.int .i64 k, .int .i64 s, .int .i64 bo, .int .i64 sq, .int .i64 st, .int .i64 ds, .int .i64 ta, .int .i64 tb, .int .i64 wh, .int .i64 wn, .int .i64 x, .int .i64 y, .int .i64 a, .int .i64 b, .int .i64 d] := fun d1 os => (Below.row? (below_of_regrown ⟨⟨d1, os⟩, rfl⟩) b0 0 15 B0.out.lt).trans (B0.out.row?_all 15 rfl)
  have q1 : ∀ w' : World, Sem.run Try.prog (convert 30 9 (.slice none 0 0)) w' = .ok (strB []) w' := fun w' => conv_rd ⟨(fun c hc => by cases hc), none, 0, rfl, Nat.le_refl _, fun j hj => absurd hj (Nat.not_lt_zero _)⟩
  obtain ⟨E, hE⟩ : ∃ E : List Nat, E = [] := ⟨_, rfl⟩
  have hyE : Byt E := by rw [hE]; intro c hc; cases hc
  rw [← hE] at q1
  clear hE
  have q3 : ∀ w' : World, Sem.run Try.prog (binOp .eql 9 (strB E) (strB E)) w' = .ok (.bool true) w' := fun w' => by rw [eql_strB _ _ hyE hyE, decide_eq_true rfl]
  have q4 : ∀ (p q : Operand) (w' : World), Sem.run Try.prog (eqGuard .eql 9 p q (strB E) (strB E)) w' = .ok () w' := fun p q w' => eqg_strB _ _ _ _ _ _ _
  go_wp2_with fail
  refine wp_region_quiet_below (by kernel_rfl) (by kernel_rfl) ?_
  repeat (go_big_quiet_step (first
    | (go_at_call 10; exact Calls.regrown_of (by with_reducible exact framemay_v ⟨k, s, bo, sq, st, ds, ta, tb, wh, wn, x, y, a, b, d⟩ false HM.out _))
    | (go_at_call 11; exact Calls.regrown_of (by with_reducible exact rframemay_v ⟨k, s, bo, sq, st, ds, ta, tb, wh, wn, x, y, a, b, d⟩ false HM.out _))
    | (go_at_call 12; exact Calls.regrown_of (by with_reducible exact awake_c _))))
  refine wpQuiet_nil ?_
  intro x9 hw
  have hb := below_of_regrown hw
  go_wp2_with fail
  go_ret
  exact ⟨rfl, by rw [← HB0.out]; exact HB.out.trans (hb.mono (by omega))⟩
theorem frameEncodes_c (k s bo sq st ds ta tb wh wn x y a b d : Int) (w : World) :
    Calls Try.prog 3 #[frC k s bo sq st ds ta tb wh wn x y a b d] w fun e w' => e = .returned (.bool true) ∧ Below w.heap.size w w' := by
  cases hm : mayF ⟨k, s, bo, sq, st, ds, ta, tb, wh, wn, x, y, a, b, d⟩ with
  | true => exact frameEncodes_t _ _ _ _ _ _ _ _ _ _ _ _ _ _ _ hm _
  | false => exact frameEncodes_f _ _ _ _ _ _ _ _ _ _ _ _ _ _ _ hm _
end Go.Proofs.Ytdipecepgfaokaa
