/- The walks of package wide's Sign, Over, Bits, Cmp, Int64. -/
import Derived.Test.YtfohihjeemmedaaW5
namespace Go.Proofs.Ytfohihjeemmedaa
open Go.RowKit

theorem WI.sign_eq (x : WI) : x.sign = if x.ov = true ∨ x.sz = 0 then 0 else if x.ng = true then -1 else 1 := by
  unfold WI.sign WI.ov WI.sz WI.ng
  cases x.v with
  | none => simp
  | some z =>
    simp
    rcases Int.lt_trichotomy z 0 with h | h | h
    · rw [Int.sign_eq_neg_one_of_neg h, if_neg (by omega), if_pos h]
    · subst h; simp
    · rw [Int.sign_eq_one_of_pos h, if_neg (by omega), if_neg (by omega)]

set_option maxRecDepth 100000 in
set_option maxHeartbeats 400000 in
/-- Sign. -/
theorem sign_I (x : WI) (w : World) :
    Calls Try.prog 32 #[.agg x.cells] w fun e w' => e = .returned (.int .i64 x.sign) ∧ Below w.heap.size w w' := by
  have HE := Lib.hid x.sign_eq
  have HQ := Lib.hid (eqW_zero x.sz x.sz_lt')
  cases ho : x.ov with
  | true =>
    have e : Hid (x.sign = 0) := by rw [ho] at HE; have := HE.out; simp at this; exact this
    go_enter Try.func32, Try.ntmps32
    go_wp2
    go_ret
    exact ⟨ret_int e.out.symm, (by repeat (first | exact Below.refl _ _ | exact Below_of_hid (by assumption) | refine Below.drew ?_ | refine below_drewN ?_ _ | refine Below_putRow ?_ (by first | omega | (simp; done) | (simp; omega) | fail) _ _ | refine Below.alloc ?_ (by first | omega | (simp; done) | (simp; omega) | fail) _ | refine Below.setCell ?_ (by first | omega | (simp; done) | (simp; omega) | fail) _ | refine Below.trans ?_ (Below.mono (by assumption) (by first | omega | (simp; done) | (simp; omega) | fail))))⟩
  | false =>
    by_cases h0 : x.sz = 0
    · have e : Hid (x.sign = 0) := by have := HE.out; simp [h0] at this; exact this
      have hq : eqW x.sz 0 = true := by rw [HQ.out]; simp [h0]
      have H0 := Lib.hid h0
      clear h0
      go_enter Try.func32, Try.ntmps32
      go_wp2
      go_ret
      exact ⟨ret_int e.out.symm, (by repeat (first | exact Below.refl _ _ | exact Below_of_hid (by assumption) | refine Below.drew ?_ | refine below_drewN ?_ _ | refine Below_putRow ?_ (by first | omega | (simp; done) | (simp; omega) | fail) _ _ | refine Below.alloc ?_ (by first | omega | (simp; done) | (simp; omega) | fail) _ | refine Below.setCell ?_ (by first | omega | (simp; done) | (simp; omega) | fail) _ | refine Below.trans ?_ (Below.mono (by assumption) (by first | omega | (simp; done) | (simp; omega) | fail))))⟩
    · have hq : eqW x.sz 0 = false := by rw [HQ.out]; simp [h0]
      cases hn : x.ng with
      | true =>
        have e : Hid (x.sign = -1) := by have := HE.out; simp [h0, ho, hn] at this; exact this
        have H0 := Lib.hid h0
        clear h0
        go_enter Try.func32, Try.ntmps32
        go_wp2
        go_ret
        exact ⟨ret_int e.out.symm, (by repeat (first | exact Below.refl _ _ | exact Below_of_hid (by assumption) | refine Below.drew ?_ | refine below_drewN ?_ _ | refine Below_putRow ?_ (by first | omega | (simp; done) | (simp; omega) | fail) _ _ | refine Below.alloc ?_ (by first | omega | (simp; done) | (simp; omega) | fail) _ | refine Below.setCell ?_ (by first | omega | (simp; done) | (simp; omega) | fail) _ | refine Below.trans ?_ (Below.mono (by assumption) (by first | omega | (simp; done) | (simp; omega) | fail))))⟩
      | false =>
        have e : Hid (x.sign = 1) := by have := HE.out; simp [h0, ho, hn] at this; exact this
        have H0 := Lib.hid h0
        clear h0
        go_enter Try.func32, Try.ntmps32
        go_wp2
        go_ret
        exact ⟨ret_int e.out.symm, (by repeat (first | exact Below.refl _ _ | exact Below_of_hid (by assumption) | refine Below.drew ?_ | refine below_drewN ?_ _ | refine Below_putRow ?_ (by first | omega | (simp; done) | (simp; omega) | fail) _ _ | refine Below.alloc ?_ (by first | omega | (simp; done) | (simp; omega) | fail) _ | refine Below.setCell ?_ (by first | omega | (simp; done) | (simp; omega) | fail) _ | refine Below.trans ?_ (Below.mono (by assumption) (by first | omega | (simp; done) | (simp; omega) | fail))))⟩

set_option maxHeartbeats 400000 in
/-- Over. -/
theorem over_I (x : WI) (w : World) :
    Calls Try.prog 112 #[.agg x.cells] w fun e w' => e = .returned (.bool x.ov) ∧ Below w.heap.size w w' := by
  go_enter Try.func112, Try.ntmps112
  go_wp2
  go_ret
  exact ⟨rfl, (by repeat (first | exact Below.refl _ _ | exact Below_of_hid (by assumption) | refine Below.drew ?_ | refine below_drewN ?_ _ | refine Below_putRow ?_ (by first | omega | (simp; done) | (simp; omega) | fail) _ _ | refine Below.alloc ?_ (by first | omega | (simp; done) | (simp; omega) | fail) _ | refine Below.setCell ?_ (by first | omega | (simp; done) | (simp; omega) | fail) _ | refine Below.trans ?_ (Below.mono (by assumption) (by first | omega | (simp; done) | (simp; omega) | fail))))⟩
end Go.Proofs.Ytfohihjeemmedaa
