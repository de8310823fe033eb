/- Rules for strings; what the laws of package mat's awake says. -/
import Derived.Test.YtcmgcndgdfblcaaM5
import Derived.Test.YtcmgcndgdfblcaaW7
namespace Go.Proofs.Ytcmgcndgdfblcaa
open Go.RowKit

@[go_sem] theorem eqg_str2 {P : Program} (op : BinOp) (t : TypeId) (x y : Operand) (l m : List UInt8) (w : World) : (eqGuard op t x y (str l) (str m)).run P w = .ok () w := by
  unfold eqGuard str; cases op <;> simp
@[go_sem] theorem eql_str {P : Program} (t : TypeId) (l m : List UInt8) (w : World) : (binOp .eql t (str l) (str m)).run P w = .ok (.bool (l == m)) w := by
  simp only [binOp, str, Op.stringOp, bytes_toList, Sem.run_pure]
@[go_sem] theorem eql_str_lit {P : Program} (t : TypeId) (l : List UInt8) (a : Array UInt8) (w : World) : (binOp .eql t (str l) (.string ⟨a⟩)).run P w = .ok (.bool (l == a.toList)) w := by
  have := eql_str (P := P) t l a.toList w
  rwa [str, Array.toArray_toList] at this

theorem small_1000 {z : Int} (h : Sm 900 z) : (WI.of z).v = some z := WI.of_v (h.lim (by decide))
theorem txt_36 : txt (WI.of 36).v = [50, 52] := by
  rw [small_1000 (Sm.mono (j := 63) (Sm.of64 (by decide) (by decide)) (by decide))]
  show txt (some 36) = _
  have : hx 36 = [50, 52] := by rw [hx_pos (by decide), hx_pos (by decide), show 36 / 16 / 16 = 0 from rfl, hx_zero]; rfl
  simp [txt, hex, this]

set_option maxHeartbeats 1000000 in
theorem awake_c (w : World) : Calls Try.prog 11 #[] w fun e w' => e = .returned (.bool true) ∧ Below w.heap.size w w' := by
  have h1 : holdsB 4 0 9 2 0 = true := by decide
  have h2 : holdsB 4 0 9 2 1 = false := by decide
  have h3 : txt (WI.of 36).v = [50, 52] := txt_36
  have i0 : Hid (I64 0) := show I64 0 from ⟨by decide, by decide⟩
  have i1 : Hid (I64 1) := show I64 1 from ⟨by decide, by decide⟩
  have i2 : Hid (I64 2) := show I64 2 from ⟨by decide, by decide⟩
  have i4 : Hid (I64 4) := show I64 4 from ⟨by decide, by decide⟩
  have i9 : Hid (I64 9) := show I64 9 from ⟨by decide, by decide⟩
  go_enter Try.func11, Try.ntmps11
  go_wp2_with fail
  refine (holds_c 4 0 9 2 0 i4.out i0.out i9.out i2.out i0.out _).mono ?_; rintro e w1 ⟨rfl, hb1⟩; rw [h1]; have z_w1 := hb1.size; (try simp at z_w1); obtain ⟨y_w1_0_0, c_w1_0_0, f_w1_0_0, r_w1_0_0, t_w1_0_0, p_w1_0_0⟩ := bk hb1 (w.heap.size) (by first | omega | (simp; done) | (simp; omega) | fail)
  go_wp2_with fail
  refine (holds_c 4 0 9 2 1 i4.out i0.out i9.out i2.out i1.out _).mono ?_; rintro e w2 ⟨rfl, hb2⟩; rw [h2]; have z_w2 := hb2.size; (try simp at z_w2); obtain ⟨y_w2_0_0, c_w2_0_0, f_w2_0_0, r_w2_0_0, t_w2_0_0, p_w2_0_0⟩ := bk hb2 (w.heap.size) (by first | omega | (simp; done) | (simp; omega) | fail)
  go_wp2_with fail
  refine (matdet_c 4 0 9 i4.out i0.out i9.out _).mono ?_; rintro e w3 ⟨rfl, hb3⟩; have z_w3 := hb3.size; (try simp at z_w3); obtain ⟨y_w3_0_0, c_w3_0_0, f_w3_0_0, r_w3_0_0, t_w3_0_0, p_w3_0_0⟩ := bk hb3 (w.heap.size) (by first | omega | (simp; done) | (simp; omega) | fail)
  go_wp2_with fail
  refine (text_I _ _).mono ?_; rintro e w4 ⟨rfl, hb4⟩; rw [h3]; have z_w4 := hb4.size; (try simp at z_w4); obtain ⟨y_w4_0_0, c_w4_0_0, f_w4_0_0, r_w4_0_0, t_w4_0_0, p_w4_0_0⟩ := bk hb4 (w.heap.size) (by first | omega | (simp; done) | (simp; omega) | fail)
  go_wp2
  go_ret
  exact ⟨rfl, (by repeat (first | exact Below.refl _ _ | exact Below_of_hid (by assumption) | refine Below.drew ?_ | refine below_drewN ?_ _ | refine Below_putRow ?_ (by first | omega | (simp; done) | (simp; omega) | fail) _ _ | refine Below.alloc ?_ (by first | omega | (simp; done) | (simp; omega) | fail) _ | refine Below.setCell ?_ (by first | omega | (simp; done) | (simp; omega) | fail) _ | refine Below.trans ?_ (Below.mono (by assumption) (by first | omega | (simp; done) | (simp; omega) | fail))))⟩
end Go.Proofs.Ytcmgcndgdfblcaa
