/- The walks of package wide's Int64, Sqrt. -/
import Derived.Test.YtfohihjeemmedaaW16
namespace Go.Proofs.Ytfohihjeemmedaa
open Go.RowKit

/-- A number as an int64; false: it does not fit. -/
def WI.i64 (x : WI) : Int × Bool :=
  match x.v with
  | some a => if -9223372036854775808 ≤ a ∧ a ≤ 9223372036854775807 then (a, true) else (0, false)
  | none => (0, false)
theorem WI.i64_over (x : WI) (h : x.ov = true) : x.i64 = (0, false) := by
  unfold WI.i64; unfold WI.ov at h
  cases hx : x.v <;> simp_all
theorem WI.i64_some (x : WI) (h : x.ov = false) : x.i64 = if x.sz ≤ 9223372036854775807 ∨ (x.sz = 9223372036854775808 ∧ x.ng = true) then (sgn x.ng x.sz, true) else (0, false) := by
  have h1 := x.ng_sz
  unfold WI.i64; rw [WI.some_of_ov h]
  have e : (-9223372036854775808 ≤ sgn x.ng x.sz ∧ sgn x.ng x.sz ≤ 9223372036854775807) ↔ (x.sz ≤ 9223372036854775807 ∨ (x.sz = 9223372036854775808 ∧ x.ng = true)) := by
    unfold sgn
    cases hn : x.ng with
    | true =>
      have := h1 hn
      simp only [if_true, and_true]
      omega
    | false => simp only [Bool.false_eq_true, if_false, and_false, or_false]; omega
  simp only [e]
@[simp] theorem WI.cells_g2 (x : WI) (h : 2 < x.cells.size) : x.cells[2] = .int .u64 (wd x.sz 0) := by
  have h1 : x.cells[2 + 0]? = _ := x.cells_word 0 (by decide)
  exact getElem_of_some h1 h
theorem wd0_small (N : Nat) (h : N < 18446744073709551616) : wd N 0 = (N : Int) := by
  unfold wd wdn; rw [Nat.mul_zero, Nat.pow_zero, Nat.div_one]; omega

set_option maxRecDepth 100000 in
set_option maxHeartbeats 1000000 in
/-- Int64. -/
theorem int64_I (x : WI) (w : World) :
    Calls Try.prog 96 #[.agg x.cells] w fun e w' => e = .returned (.tuple #[.int .i64 x.i64.1, .bool x.i64.2]) ∧ Below w.heap.size w w' := by
  have HLT := Lib.hid x.sz_lt'
  cases ho : x.ov with
  | true =>
    rw [WI.i64_over x ho]
    go_enter Try.func96, Try.ntmps96
    go_wp2_with fail
    go_ret2
    exact ⟨rfl, (by repeat (first | exact Below.refl _ _ | exact Below_of_hid (by assumption) | refine Below.drew ?_ | refine below_drewN ?_ _ | refine Below_putRow ?_ (by first | omega | (simp; done) | (simp; omega) | fail) _ _ | refine Below.alloc ?_ (by first | omega | (simp; done) | (simp; omega) | fail) _ | refine Below.setCell ?_ (by first | omega | (simp; done) | (simp; omega) | fail) _ | refine Below.trans ?_ (Below.mono (by assumption) (by first | omega | (simp; done) | (simp; omega) | fail))))⟩
  | false =>
    rw [WI.i64_some x ho]
    by_cases hb : 64 < bl x.sz
    · have hge : ¬ x.sz < 18446744073709551616 := fun h => by have := (bl_le_iff x.sz 64).2 h; omega
      rw [if_neg (by omega)]
      have h1 : (64 : Int) < (bl x.sz : Int) := by omega
      clear hge hb
      go_enter Try.func96, Try.ntmps96
      go_wp2_with (go_at_call 93; refine (bits_c _ _ x.sz _ HLT.out (.of_wi (Blk.new _ _ _))).mono ?_; rintro e w' ⟨rfl, rfl⟩)
      go_ret2
      exact ⟨rfl, (by repeat (first | exact Below.refl _ _ | exact Below_of_hid (by assumption) | refine Below.drew ?_ | refine below_drewN ?_ _ | refine Below_putRow ?_ (by first | omega | (simp; done) | (simp; omega) | fail) _ _ | refine Below.alloc ?_ (by first | omega | (simp; done) | (simp; omega) | fail) _ | refine Below.setCell ?_ (by first | omega | (simp; done) | (simp; omega) | fail) _ | refine Below.trans ?_ (Below.mono (by assumption) (by first | omega | (simp; done) | (simp; omega) | fail))))⟩
    · have hlt : x.sz < 18446744073709551616 := (bl_le_iff x.sz 64).1 (by omega)
      have h1 : (bl x.sz : Int) ≤ 64 := by omega
      obtain ⟨N, hN⟩ : ∃ N, N = x.sz := ⟨_, rfl⟩
      have h2 : wd x.sz 0 = (N : Int) := by rw [hN]; exact wd0_small _ hlt
      rw [← hN] at hlt ⊢
      have HN := Lib.hid hN
      clear hN hb
      by_cases hg : 9223372036854775808 < N
      · rw [if_neg (by omega)]
        have h3 : (9223372036854775808 : Int) < (N : Int) := by omega
        clear hlt
        go_enter Try.func96, Try.ntmps96
        go_wp2_with (go_at_call 93; refine (bits_c _ _ x.sz _ HLT.out (.of_wi (Blk.new _ _ _))).mono ?_; rintro e w' ⟨rfl, rfl⟩)
        go_ret2
        exact ⟨rfl, (by repeat (first | exact Below.refl _ _ | exact Below_of_hid (by assumption) | refine Below.drew ?_ | refine below_drewN ?_ _ | refine Below_putRow ?_ (by first | omega | (simp; done) | (simp; omega) | fail) _ _ | refine Below.alloc ?_ (by first | omega | (simp; done) | (simp; omega) | fail) _ | refine Below.setCell ?_ (by first | omega | (simp; done) | (simp; omega) | fail) _ | refine Below.trans ?_ (Below.mono (by assumption) (by first | omega | (simp; done) | (simp; omega) | fail))))⟩
      · by_cases he : N = 9223372036854775808
        · cases hn : x.ng with
          | true =>
            rw [if_pos (.inr ⟨he, rfl⟩)]
            have h3 : IntKind.u64.wrap (-(N : Int)) = (N : Int) := by rw [IntKind.wrap_u64]; omega
            have h4 : IntKind.i64.wrap (N : Int) = -(N : Int) := by rw [IntKind.wrap_i64]; omega
            have h5 : ¬ 9223372036854775808 < N := hg
            have h6 : (N : Int) = 9223372036854775808 := by omega
            have HE := Lib.hid he
            have h7 : (N : Int) ≤ 9223372036854775808 := by omega
            clear hlt he
            go_enter Try.func96, Try.ntmps96
            go_wp2_with (go_at_call 93; refine (bits_c _ _ x.sz _ HLT.out (.of_wi (Blk.new _ _ _))).mono ?_; rintro e w' ⟨rfl, rfl⟩)
            have hw : wrap64 (IntKind.u64.wrap (-9223372036854775808)) = -9223372036854775808 := by rw [IntKind.wrap_u64]; unfold wrap64; omega
            go_ret2
            exact ⟨by rw [HE.out, hw]; rfl, (by repeat (first | exact Below.refl _ _ | exact Below_of_hid (by assumption) | refine Below.drew ?_ | refine below_drewN ?_ _ | refine Below_putRow ?_ (by first | omega | (simp; done) | (simp; omega) | fail) _ _ | refine Below.alloc ?_ (by first | omega | (simp; done) | (simp; omega) | fail) _ | refine Below.setCell ?_ (by first | omega | (simp; done) | (simp; omega) | fail) _ | refine Below.trans ?_ (Below.mono (by assumption) (by first | omega | (simp; done) | (simp; omega) | fail))))⟩
          | false =>
            rw [if_neg (by simp; omega)]
            have h6 : (N : Int) = 9223372036854775808 := by omega
            clear hlt he
            go_enter Try.func96, Try.ntmps96
            go_wp2_with (go_at_call 93; refine (bits_c _ _ x.sz _ HLT.out (.of_wi (Blk.new _ _ _))).mono ?_; rintro e w' ⟨rfl, rfl⟩)
            go_ret2
            exact ⟨rfl, (by repeat (first | exact Below.refl _ _ | exact Below_of_hid (by assumption) | refine Below.drew ?_ | refine below_drewN ?_ _ | refine Below_putRow ?_ (by first | omega | (simp; done) | (simp; omega) | fail) _ _ | refine Below.alloc ?_ (by first | omega | (simp; done) | (simp; omega) | fail) _ | refine Below.setCell ?_ (by first | omega | (simp; done) | (simp; omega) | fail) _ | refine Below.trans ?_ (Below.mono (by assumption) (by first | omega | (simp; done) | (simp; omega) | fail))))⟩
        · rw [if_pos (.inl (by omega))]
          have h5 : ¬ 9223372036854775808 < N := hg
          have h6 : ¬ N = 9223372036854775808 := he
          have h6' : ¬ (N : Int) = 9223372036854775808 := by omega
          have h7 : (N : Int) ≤ 9223372036854775808 := by omega
          cases hn : x.ng with
          | true =>
            have hz : N ≠ 0 := by rw [HN.out]; exact x.ng_sz hn
            obtain ⟨Q, hQ⟩ : ∃ Q, Q = 18446744073709551616 - N := ⟨_, rfl⟩
            have h3 : IntKind.u64.wrap (-(N : Int)) = (Q : Int) := by rw [IntKind.wrap_u64]; omega
            have h4 : IntKind.i64.wrap (Q : Int) = -(N : Int) := by rw [IntKind.wrap_i64]; omega
            clear hlt he hg hz hQ
            go_enter Try.func96, Try.ntmps96
            go_wp2_with (go_at_call 93; refine (bits_c _ _ x.sz _ HLT.out (.of_wi (Blk.new _ _ _))).mono ?_; rintro e w' ⟨rfl, rfl⟩)
            go_ret2
            exact ⟨rfl, (by repeat (first | exact Below.refl _ _ | exact Below_of_hid (by assumption) | refine Below.drew ?_ | refine below_drewN ?_ _ | refine Below_putRow ?_ (by first | omega | (simp; done) | (simp; omega) | fail) _ _ | refine Below.alloc ?_ (by first | omega | (simp; done) | (simp; omega) | fail) _ | refine Below.setCell ?_ (by first | omega | (simp; done) | (simp; omega) | fail) _ | refine Below.trans ?_ (Below.mono (by assumption) (by first | omega | (simp; done) | (simp; omega) | fail))))⟩
          | false =>
            have h4 : IntKind.i64.wrap (N : Int) = (N : Int) := by rw [IntKind.wrap_i64]; omega
            clear hlt he hg
            go_enter Try.func96, Try.ntmps96
            go_wp2_with (go_at_call 93; refine (bits_c _ _ x.sz _ HLT.out (.of_wi (Blk.new _ _ _))).mono ?_; rintro e w' ⟨rfl, rfl⟩)
            go_ret2
            exact ⟨rfl, (by repeat (first | exact Below.refl _ _ | exact Below_of_hid (by assumption) | refine Below.drew ?_ | refine below_drewN ?_ _ | refine Below_putRow ?_ (by first | omega | (simp; done) | (simp; omega) | fail) _ _ | refine Below.alloc ?_ (by first | omega | (simp; done) | (simp; omega) | fail) _ | refine Below.setCell ?_ (by first | omega | (simp; done) | (simp; omega) | fail) _ | refine Below.trans ?_ (Below.mono (by assumption) (by first | omega | (simp; done) | (simp; omega) | fail))))⟩

/-- A number's root, down. -/
def WI.sqrt (x : WI) : WI × Int :=
  match x.v with
  | some a => if a < 0 then (WI.of 0, 1) else (WI.of (rt a.toNat : Nat), 0)
  | none => (WI.of 0, 2)
theorem WI.sqrt_over (x : WI) (h : x.ov = true) : x.sqrt = (WI.of 0, 2) := by
  unfold WI.sqrt; unfold WI.ov at h
  cases hx : x.v <;> simp_all
theorem WI.sqrt_neg (x : WI) (h : x.ov = false) (hn : x.ng = true) : x.sqrt = (WI.of 0, 1) := by
  have := x.ng_sz hn
  unfold WI.sqrt; rw [WI.some_of_ov h]
  simp only [sgn, hn, if_true]
  rw [if_pos (by omega)]
theorem WI.sqrt_pos (x : WI) (h : x.ov = false) (hn : x.ng = false) : x.sqrt = (WI.of (rt x.sz : Nat), 0) := by
  unfold WI.sqrt; rw [WI.some_of_ov h]
  simp only [sgn, hn, Bool.false_eq_true, if_false]
  rw [if_neg (by omega)]
  rfl

set_option maxRecDepth 100000 in
set_option maxHeartbeats 1000000 in
theorem sqrt_easy (x : WI) (h : x.ov = true ∨ x.ng = true ∨ x.sz = 0) (w : World) :
    Calls Try.prog 73 #[.agg x.cells] w fun e w' => e = .returned (.tuple #[.agg x.sqrt.1.cells, .int .i64 x.sqrt.2]) ∧ Below w.heap.size w w' := by
  have E := Lib.hid WI.of_0
  cases ho : x.ov with
  | true =>
    rw [WI.sqrt_over x ho]
    clear h
    go_enter Try.func73, Try.ntmps73
    go_wp2_with fail
    exact bodyPost_row_t 18 (cellsI false false 0) (.int .i64 2) rfl rfl rfl rfl Try.underlying68 rfl info_Int (by go_simp) ⟨by rw [E.out], (by repeat (first | exact Below.refl _ _ | exact Below_of_hid (by assumption) | refine Below.drew ?_ | refine below_drewN ?_ _ | refine Below_putRow ?_ (by first | omega | (simp; done) | (simp; omega) | fail) _ _ | refine Below.alloc ?_ (by first | omega | (simp; done) | (simp; omega) | fail) _ | refine Below.setCell ?_ (by first | omega | (simp; done) | (simp; omega) | fail) _ | refine Below.trans ?_ (Below.mono (by assumption) (by first | omega | (simp; done) | (simp; omega) | fail))))⟩
  | false =>
    cases hn : x.ng with
    | true =>
      rw [WI.sqrt_neg x ho hn]
      clear h
      go_enter Try.func73, Try.ntmps73
      go_wp2_with fail
      exact bodyPost_row_t 18 (cellsI false false 0) (.int .i64 1) rfl rfl rfl rfl Try.underlying68 rfl info_Int (by go_simp) ⟨by rw [E.out], (by repeat (first | exact Below.refl _ _ | exact Below_of_hid (by assumption) | refine Below.drew ?_ | refine below_drewN ?_ _ | refine Below_putRow ?_ (by first | omega | (simp; done) | (simp; omega) | fail) _ _ | refine Below.alloc ?_ (by first | omega | (simp; done) | (simp; omega) | fail) _ | refine Below.setCell ?_ (by first | omega | (simp; done) | (simp; omega) | fail) _ | refine Below.trans ?_ (Below.mono (by assumption) (by first | omega | (simp; done) | (simp; omega) | fail))))⟩
    | false =>
      have h0 : x.sz = 0 := by rw [ho, hn] at h; simpa using h
      rw [WI.sqrt_pos x ho hn]
      have hq : eqW x.sz 0 = true := by rw [eqW_zero _ x.sz_lt']; simp [h0]
      have E2 : Hid (x.cells = (WI.of (rt x.sz : Nat)).cells) := by
        show _ = _
        rw [h0, show ((rt 0 : Nat) : Int) = 0 from rfl, WI.of_0, x.cells_eq, hn, ho, h0]
      clear h h0
      go_enter Try.func73, Try.ntmps73
      go_wp2_with fail
      exact bodyPost_row_t 18 x.cells (.int .i64 0) rfl rfl rfl rfl Try.underlying68 rfl info_Int (by go_simp) ⟨by rw [E2.out], (by repeat (first | exact Below.refl _ _ | exact Below_of_hid (by assumption) | refine Below.drew ?_ | refine below_drewN ?_ _ | refine Below_putRow ?_ (by first | omega | (simp; done) | (simp; omega) | fail) _ _ | refine Below.alloc ?_ (by first | omega | (simp; done) | (simp; omega) | fail) _ | refine Below.setCell ?_ (by first | omega | (simp; done) | (simp; omega) | fail) _ | refine Below.trans ?_ (Below.mono (by assumption) (by first | omega | (simp; done) | (simp; omega) | fail))))⟩
end Go.Proofs.Ytfohihjeemmedaa
