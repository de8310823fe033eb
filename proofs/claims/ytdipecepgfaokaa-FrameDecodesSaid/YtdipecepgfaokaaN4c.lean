/- The walk of frame.rest: kind 5. -/
import Derived.Test.YtdipecepgfaokaaN4
namespace Go.Proofs.Ytdipecepgfaokaa
set_option linter.unusedSimpArgs false
set_option linter.unusedVariables false
open Go.RowKit

set_option maxRecDepth 100000 in
set_option maxHeartbeats 2000000 in
theorem rest_5 (s bo sq st ds ta tb wh wn x y a b d : Int) (ok : Bool) (hok : (El.may ⟨x, y, a, b, d⟩) = ok) (w : World) :
    Calls Try.prog 19 #[frC 5 s bo sq st ds ta tb wh wn x y a b d] w fun e w' => e = .returned (.tuple #[frC 5 s bo sq st ds ta tb wh wn 0 0 0 0 0, .bool ok]) ∧ Below w.heap.size w w' := by
  subst hok
  obtain ⟨q, g0⟩ : ∃ q, El.may ⟨x, y, a, b, d⟩ = q := ⟨_, rfl⟩
  have EV : Hid ((El.may ⟨x, y, a, b, d⟩) = q) := by show _ = _; simp [g0]
  go_enter Try.func19, Try.ntmps19
  go_wp2_with fail
  refine name_calls ?_; intro u0 hu0
  have HB : Hid (Below w.heap.size w u0) := by rw [hu0]; show Below w.heap.size w _; exact (by repeat (first | with_reducible exact Below.refl _ _ | with_reducible exact Below_of_hid (by assumption) | with_reducible refine Below.drew ?_ | with_reducible refine below_drewN ?_ _ | (with_reducible refine Below_putRow ?_ ?hB _ _; case hB => (first | omega | (simp; done) | (simp; omega))) | (with_reducible refine Below.alloc ?_ ?hB _; case hB => (first | omega | (simp; done) | (simp; omega))) | (with_reducible refine Below.setCell ?_ ?hB _; case hB => (first | omega | (simp; done) | (simp; omega))) | (with_reducible refine Below.trans ?_ (Below.mono (by assumption) ?hB); case hB => (first | omega | (simp; done) | (simp; omega)))))
  have B0 : Hid (Blk u0 w.heap.size #[.int .i64 5, .int .i64 s, .int .i64 bo, .int .i64 sq, .int .i64 st, .int .i64 ds, .int .i64 ta, .int .i64 tb, .int .i64 wh, .int .i64 wn, .int .i64 x, .int .i64 y, .int .i64 a, .int .i64 b, .int .i64 d] 29) := by rw [hu0]; exact (Blk.new _ _ _).alloc _
  have B1 : Hid (Blk u0 (w.heap.size + 1) #[.int .i64 0, .int .i64 0, .int .i64 0, .int .i64 0, .int .i64 0, .int .i64 0, .int .i64 0, .int .i64 0, .int .i64 0, .int .i64 0, .int .i64 0, .int .i64 0, .int .i64 0, .int .i64 0, .int .i64 0] 29) := by rw [hu0]; exact Blk.new' _ _ _ (by simp)
  clear hu0
  refine Calls.mono (ellmay_n _ _ _ _ _ _ (by assumption) _) ?_; rintro e w1 ⟨rfl, hb⟩
  replace B0 := Lib.hid (B0.out.keep hb); replace B1 := Lib.hid (B1.out.keep hb); replace HB := Lib.hid (HB.out.trans (hb.mono HB.out.size)); clear hb
  have c_0 := B0.out.cell (i := 0) rfl
  have c_1 := B0.out.cell (i := 1) rfl
  have c_2 := B0.out.cell (i := 2) rfl
  have c_3 := B0.out.cell (i := 3) rfl
  have c_4 := B0.out.cell (i := 4) rfl
  have c_5 := B0.out.cell (i := 5) rfl
  have c_6 := B0.out.cell (i := 6) rfl
  have c_7 := B0.out.cell (i := 7) rfl
  have c_8 := B0.out.cell (i := 8) rfl
  have c_9 := B0.out.cell (i := 9) rfl
  have c_10 := B0.out.cell (i := 10) rfl
  have c_11 := B0.out.cell (i := 11) rfl
  have c_12 := B0.out.cell (i := 12) rfl
  have c_13 := B0.out.cell (i := 13) rfl
  have c_14 := B0.out.cell (i := 14) rfl
  have l0 := B0.out.lt; have f0 := B0.out.frozen; have ft0 := B0.out.fits 15 (by simp)
  go_upto_region 21 with fail
  refine name_wp ?_; intro u2 hu2
  have B2 : Hid (Blk u2 w.heap.size #[.int .i64 5, .int .i64 s, .int .i64 bo, .int .i64 sq, .int .i64 st, .int .i64 ds, .int .i64 ta, .int .i64 tb, .int .i64 wh, .int .i64 wn, .int .i64 0, .int .i64 0, .int .i64 0, .int .i64 0, .int .i64 0] 29) := by rw [hu2]; exact Blk.of_eq ((((((B0.out.setCell_same 10 _).setCell_same 11 _).setCell_same 12 _).setCell_same 13 _).setCell_same 14 _)) (by simp)
  have B3 : Hid (Blk u2 (w.heap.size + 1) #[.int .i64 0, .int .i64 0, .int .i64 0, .int .i64 0, .int .i64 0, .int .i64 0, .int .i64 0, .int .i64 0, .int .i64 0, .int .i64 0, .int .i64 0, .int .i64 0, .int .i64 0, .int .i64 0, .int .i64 0] 29) := by rw [hu2]; exact (((((B1.out.setCell_other (by simp) _).setCell_other (by simp) _).setCell_other (by simp) _).setCell_other (by simp) _).setCell_other (by simp) _)
  have HB2 : Hid (Below w.heap.size w u2) := by rw [hu2]; exact (((((HB.out.setCell (Nat.le_refl _) _).setCell (Nat.le_refl _) _).setCell (Nat.le_refl _) _).setCell (Nat.le_refl _) _).setCell (Nat.le_refl _) _)
  clear hu2 c_0 c_1 c_2 c_3 c_4 c_5 c_6 c_7 c_8 c_9 c_10 c_11 c_12 c_13 c_14 l0 f0 ft0 B0 B1 HB
  obtain ⟨R2, hR2⟩ : ∃ R : Array Value, R = #[.int .i64 5, .int .i64 s, .int .i64 bo, .int .i64 sq, .int .i64 st, .int .i64 ds, .int .i64 ta, .int .i64 tb, .int .i64 wh, .int .i64 wn, .int .i64 0, .int .i64 0, .int .i64 0, .int .i64 0, .int .i64 0] := ⟨_, rfl⟩
  have rw2 : u2.row? w.heap.size 0 15 = some R2 := by rw [hR2]; exact B2.out.row?_all 15 rfl
  have pt3 : u2.put? (w.heap.size + 1) 0 R2 = some (u2.putRow (w.heap.size + 1) 0 R2) := B3.out.put? 0 R2 (by rw [hR2]; simp) (by rw [hR2]; exact ones15 _ _ _ _ _ _ _ _ _ _ _ _ _ _ _)
  have hsz : R2.size = 15 := by rw [hR2]; rfl
  have HR := Lib.hid hR2; clear hR2
  have l2 := B2.out.lt; have l3 := B3.out.lt
  go_wp2_with fail
  exact bodyPost_row_t 15 R2 (.bool q) rfl rfl rfl rfl Try.underlying29 rfl (by kernel_rfl) (row_put pt3 (by rw [HR.out]; rfl)) ⟨by rw [HR.out, EV.out], (by repeat (first | with_reducible exact Below.refl _ _ | with_reducible exact Below_of_hid (by assumption) | with_reducible refine Below.drew ?_ | with_reducible refine below_drewN ?_ _ | (with_reducible refine Below_putRow ?_ ?hB _ _; case hB => (first | omega | (simp; done) | (simp; omega))) | (with_reducible refine Below.alloc ?_ ?hB _; case hB => (first | omega | (simp; done) | (simp; omega))) | (with_reducible refine Below.setCell ?_ ?hB _; case hB => (first | omega | (simp; done) | (simp; omega))) | (with_reducible refine Below.trans ?_ (Below.mono (by assumption) ?hB); case hB => (first | omega | (simp; done) | (simp; omega)))))⟩
end Go.Proofs.Ytdipecepgfaokaa
