/- The walk of frame.Decode: the sum is wrong. -/
import Derived.Test.YtdipecepgfaokaaN11
namespace Go.Proofs.Ytdipecepgfaokaa
set_option linter.unusedSimpArgs false
set_option linter.unusedVariables false
open Go.RowKit

set_option maxRecDepth 100000 in
set_option maxHeartbeats 16000000 in
theorem decode_sum (v : Value) (l : List Nat) (w : World) (h : RdB w v l) (hl : l.length = 80) (hm : l.take 4 = [97, 108, 105, 49]) (hsum : nAt l 76 4 ≠ crc (l.take 76)) :
    Calls Try.prog 14 #[v] w fun e w' => e = .returned (.tuple #[frZ, .int .i64 6]) ∧ Below w.heap.size w w' := by
  obtain ⟨ao, cap, rfl⟩ := h.form
  have hy := h.1
  have hcap : 80 ≤ cap := by obtain ⟨_, _, _, e, hc, _⟩ := h; cases e; omega
  obtain ⟨b, o, rfl, hb, hc0⟩ : ∃ b o, ao = some ⟨b, o, none⟩ ∧ b < w.heap.size ∧ w.cell? ⟨b, o + 0, none⟩ = some (.int .u8 ((l.getD 0 0 : Nat) : Int)) := by
    obtain ⟨_, ao', _, e, _, H⟩ := h; cases e; exact H 0 (by omega)
  have h4 := h.cutL 4 cap (by omega) (by omega)
  have HD := Lib.hid (h.cutR 76 4 (cap - 76) (by omega) (by omega))
  have HD4 := Lib.hid (h.cutR 4 76 (cap - 4) (by omega) (by omega))
  have HS := Lib.hid (h.cutL 76 cap (by omega) (by omega))
  rw [hl] at h
  rw [hl]
  have hcv := conv_rd (h4.below (w' := w.alloc (Obj.cells #[.int .i64 0, .int .i64 0, .int .i64 0, .int .i64 0, .int .i64 0, .int .i64 0, .int .i64 0, .int .i64 0, .int .i64 0, .int .i64 0, .int .i64 0, .int .i64 0, .int .i64 0, .int .i64 0, .int .i64 0] 29)) ((Below.refl _ _).alloc (Nat.le_refl _) _))
  rw [hm] at hcv
  have hne : ∀ w', Sem.run Try.prog (binOp .neq 9 (strB [97, 108, 105, 49]) (Value.string { data := #[97, 108, 105, 49] })) w' = .ok (.bool false) w' := fun w' => neq_strB [97, 108, 105, 49] [97, 108, 105, 49] (by intro c hc; simp at hc; omega) (by intro c hc; simp at hc; omega) 9 w'
  have hgd : ∀ (x y : Operand) (w' : World), Sem.run Try.prog (eqGuard .neq 9 x y (strB [97, 108, 105, 49]) (Value.string { data := #[97, 108, 105, 49] })) w' = .ok () w' := fun x y w' => eqg_strB .neq 9 x y [97, 108, 105, 49] [97, 108, 105, 49] w'
  have HL := Lib.hid hl
  have hnl : nAt l 76 4 < 4294967296 := by unfold nAt; exact nb_lt4 (byt_take (byt_drop hy 76) 4) (by rw [List.length_take, List.length_drop]; omega)
  have HY := Lib.hid hy
  have c76 : (76 : Int) ≤ (cap : Int) := by omega
  have c4 : (4 : Int) ≤ (cap : Int) := by omega
  have d76 : ¬ cap - 76 = 0 := by omega
  have d4 : ¬ cap - 4 = 0 := by omega
  clear hm h4 h hc0 hl hy
  go_enter Try.func14, Try.ntmps14
  go_wp2_with fail
  refine name_wp ?_; intro u0 hu0
  obtain ⟨b0, hb0⟩ : ∃ b0, b0 = w.heap.size := ⟨_, rfl⟩
  have R0 : Hid (Blk u0 b0 #[.int .i64 0, .int .i64 0, .int .i64 0, .int .i64 0, .int .i64 0, .int .i64 0, .int .i64 0, .int .i64 0, .int .i64 0, .int .i64 0, .int .i64 0, .int .i64 0, .int .i64 0, .int .i64 0, .int .i64 0] 29) := by rw [hu0, hb0]; exact (Blk.new _ _ _).alloc _
  have G1 : Hid (Blk u0 (b0 + 1) #[.slice (some ⟨b, o + 76, none⟩) 4 (cap - 76)] 63) := by rw [hu0, hb0]; exact Blk.new' _ _ _ (by simp)
  have hB0 : Below b0 w u0 := by rw [hu0, hb0]; show Below w.heap.size w _; exact (by repeat (first | with_reducible exact Below.refl _ _ | with_reducible exact Below_of_hid (by assumption) | with_reducible refine Below.drew ?_ | with_reducible refine below_drewN ?_ _ | (with_reducible refine Below_putRow ?_ ?hB _ _; case hB => (first | omega | (simp; done) | (simp; omega))) | (with_reducible refine Below.alloc ?_ ?hB _; case hB => (first | omega | (simp; done) | (simp; omega))) | (with_reducible refine Below.setCell ?_ ?hB _; case hB => (first | omega | (simp; done) | (simp; omega))) | (with_reducible refine Below.trans ?_ (Below.mono (by assumption) ?hB); case hB => (first | omega | (simp; done) | (simp; omega)))))
  have HB := Lib.hid hB0
  have HB0 := Lib.hid hb0
  have hbw : Below w.heap.size w u0 := by rw [← hb0]; exact hB0
  replace HD := Lib.hid (HD.out.below hbw)
  replace HD4 := Lib.hid (HD4.out.below hbw)
  replace HS := Lib.hid (HS.out.below hbw)
  have hbl : b < b0 := by omega
  rw [← hb0]
  have hsz : b0 + 1 < u0.heap.size := G1.out.lt
  clear hu0 hb0 hB0 hbw hb hcv hne hgd
  obtain ⟨N, hN⟩ : ∃ N, N = nAt l 76 4 := ⟨_, rfl⟩
  obtain ⟨C, hC⟩ : ∃ C, C = crc (l.take 76) := ⟨_, rfl⟩
  have hCl : C < 4294967296 := by rw [hC]; exact crc_lt _
  rw [← hN] at hnl
  have HN := Lib.hid hN.symm
  have HC := Lib.hid hC.symm
  clear hN hC
  go_cut [33] from 27 (fun s33 wc => s33 = .bool (decide (N ≠ C)) ∧ Hid (OnlyAt (b0 + 1) u0 wc))
  case first =>
    go_region_held3 (fun _ => True) (trivial)
      (first
        | (go_at_call 29; refine Calls.mono (take_at (b0 + 1) _ l 76 4 80 rfl (by decide) (by have := HL.out; omega) (by have := HL.out; omega) _ (by first | exact G1.out | exact G1.out.drew) (by first | exact HD.out | exact HD.out.below (Below.refl _ _).drew)) ?_; rintro e w2 ⟨⟨v2, rfl, hG2, hR2⟩, ho2⟩; rw [HN.out])
        | (go_at_call 17; refine Calls.mono (sum_x _ (l.take 76) C _ HC.out (by first | exact rd_only ho2 G1.out HS.out | exact (rd_only ho2 G1.out HS.out).below (Below.refl _ _).drew) (by rw [List.length_take]; omega)) ?_; rintro e w3 ⟨rfl, hb3⟩))
    go_wp2_with fail
    go_meet
    exact ⟨congrArg Value.bool (ne_words N C hnl hCl), (show OnlyAt (b0 + 1) u0 w2 from by first | exact ho2 | exact ho2.undrew).trans (OnlyAt.of_below (by first | exact hb3 | exact below_undrew hb3))⟩
  case rest =>
    obtain ⟨rfl, ho⟩ := hcut
    replace HD4 := Lib.hid (rd_only ho.out G1.out HD4.out)
    replace R0 := Lib.hid (ho.out.blk R0.out (by omega))
    have hsw := ho.out.size
    replace HB := Lib.hid (ho.out.below HB.out (by rw [HB0.out]; exact Nat.le_refl _) (Nat.le_succ _))
    clear ho G1 HD HS
    have hd : decide (N ≠ C) = true := decide_eq_true (by rw [← HN.out, ← HC.out]; exact hsum)
    rw [hd]
    clear hd
    have e0 : wc.setCell ⟨b0, 0, none⟩ (.int .i64 0) = wc := R0.out.setCell_self rfl
    have e1 : wc.setCell ⟨b0, 1, none⟩ (.int .i64 0) = wc := R0.out.setCell_self rfl
    have e2 : wc.setCell ⟨b0, 2, none⟩ (.int .i64 0) = wc := R0.out.setCell_self rfl
    have e3 : wc.setCell ⟨b0, 3, none⟩ (.int .i64 0) = wc := R0.out.setCell_self rfl
    have e4 : wc.setCell ⟨b0, 4, none⟩ (.int .i64 0) = wc := R0.out.setCell_self rfl
    have e5 : wc.setCell ⟨b0, 5, none⟩ (.int .i64 0) = wc := R0.out.setCell_self rfl
    have e6 : wc.setCell ⟨b0, 6, none⟩ (.int .i64 0) = wc := R0.out.setCell_self rfl
    have e7 : wc.setCell ⟨b0, 7, none⟩ (.int .i64 0) = wc := R0.out.setCell_self rfl
    have e8 : wc.setCell ⟨b0, 8, none⟩ (.int .i64 0) = wc := R0.out.setCell_self rfl
    have e9 : wc.setCell ⟨b0, 9, none⟩ (.int .i64 0) = wc := R0.out.setCell_self rfl
    have e10 : wc.setCell ⟨b0, 10, none⟩ (.int .i64 0) = wc := R0.out.setCell_self rfl
    have e11 : wc.setCell ⟨b0, 11, none⟩ (.int .i64 0) = wc := R0.out.setCell_self rfl
    have e12 : wc.setCell ⟨b0, 12, none⟩ (.int .i64 0) = wc := R0.out.setCell_self rfl
    have e13 : wc.setCell ⟨b0, 13, none⟩ (.int .i64 0) = wc := R0.out.setCell_self rfl
    have e14 : wc.setCell ⟨b0, 14, none⟩ (.int .i64 0) = wc := R0.out.setCell_self rfl
    have k0 : wc.cell? ⟨b0, 0, none⟩ = some (.int .i64 0) := R0.out.cell rfl
    have k1 : wc.cell? ⟨b0, 1, none⟩ = some (.int .i64 0) := R0.out.cell rfl
    have k2 : wc.cell? ⟨b0, 2, none⟩ = some (.int .i64 0) := R0.out.cell rfl
    have k3 : wc.cell? ⟨b0, 3, none⟩ = some (.int .i64 0) := R0.out.cell rfl
    have k4 : wc.cell? ⟨b0, 4, none⟩ = some (.int .i64 0) := R0.out.cell rfl
    have k5 : wc.cell? ⟨b0, 5, none⟩ = some (.int .i64 0) := R0.out.cell rfl
    have k6 : wc.cell? ⟨b0, 6, none⟩ = some (.int .i64 0) := R0.out.cell rfl
    have k7 : wc.cell? ⟨b0, 7, none⟩ = some (.int .i64 0) := R0.out.cell rfl
    have k8 : wc.cell? ⟨b0, 8, none⟩ = some (.int .i64 0) := R0.out.cell rfl
    have k9 : wc.cell? ⟨b0, 9, none⟩ = some (.int .i64 0) := R0.out.cell rfl
    have k10 : wc.cell? ⟨b0, 10, none⟩ = some (.int .i64 0) := R0.out.cell rfl
    have k11 : wc.cell? ⟨b0, 11, none⟩ = some (.int .i64 0) := R0.out.cell rfl
    have k12 : wc.cell? ⟨b0, 12, none⟩ = some (.int .i64 0) := R0.out.cell rfl
    have k13 : wc.cell? ⟨b0, 13, none⟩ = some (.int .i64 0) := R0.out.cell rfl
    have k14 : wc.cell? ⟨b0, 14, none⟩ = some (.int .i64 0) := R0.out.cell rfl
    have f0 := R0.out.frozen
    have l0 := R0.out.lt
    have r0 := R0.out.row?_all 15 rfl
    go_wp2_with fail
    exact bodyPost_row_t 15 #[.int .i64 0, .int .i64 0, .int .i64 0, .int .i64 0, .int .i64 0, .int .i64 0, .int .i64 0, .int .i64 0, .int .i64 0, .int .i64 0, .int .i64 0, .int .i64 0, .int .i64 0, .int .i64 0, .int .i64 0] (.int .i64 6) rfl rfl rfl rfl Try.underlying29 rfl (by kernel_rfl) r0 ⟨rfl, by rw [← HB0.out]; exact HB.out⟩
end Go.Proofs.Ytdipecepgfaokaa
