/- The walk of frame.Encode where the frame may be. -/
import Derived.Test.YtdipecepgfaokaaN7
namespace Go.Proofs.Ytdipecepgfaokaa
set_option linter.unusedSimpArgs false
set_option linter.unusedVariables false
open Go.RowKit

set_option maxRecDepth 100000 in
set_option maxHeartbeats 16000000 in
theorem encode_t (k s bo sq st ds ta tb wh wn x y a b d : Int) (hm : mayF ⟨k, s, bo, sq, st, ds, ta, tb, wh, wn, x, y, a, b, d⟩ = true) (w : World) :
    Calls Try.prog 8 #[frC k s bo sq st ds ta tb wh wn x y a b d] w fun e w' => (∃ v, e = .returned (.tuple #[v, .int .i64 0]) ∧ OwnB w' (w.heap.size + 1) v (encL ⟨k, s, bo, sq, st, ds, ta, tb, wh, wn, x, y, a, b, d⟩)) ∧ Below w.heap.size w w' := by
  go_enter Try.func8, Try.ntmps8
  go_wp2_with fail
  refine name_calls ?_; intro u0 hu0
  obtain ⟨b0, hb0⟩ : ∃ b0, b0 = w.heap.size := ⟨_, rfl⟩
  have HB : Hid (Below b0 w u0) := by rw [hu0, hb0]; show Below w.heap.size w _; exact (by repeat (first | with_reducible exact Below.refl _ _ | with_reducible exact Below_of_hid (by assumption) | with_reducible refine Below.drew ?_ | with_reducible refine below_drewN ?_ _ | (with_reducible refine Below_putRow ?_ ?hB _ _; case hB => (first | omega | (simp; done) | (simp; omega))) | (with_reducible refine Below.alloc ?_ ?hB _; case hB => (first | omega | (simp; done) | (simp; omega))) | (with_reducible refine Below.setCell ?_ ?hB _; case hB => (first | omega | (simp; done) | (simp; omega))) | (with_reducible refine Below.trans ?_ (Below.mono (by assumption) ?hB); case hB => (first | omega | (simp; done) | (simp; omega)))))
  have B0 : Hid (Blk u0 b0 #[.int .i64 k, .int .i64 s, .int .i64 bo, .int .i64 sq, .int .i64 st, .int .i64 ds, .int .i64 ta, .int .i64 tb, .int .i64 wh, .int .i64 wn, .int .i64 x, .int .i64 y, .int .i64 a, .int .i64 b, .int .i64 d] 29) := by rw [hu0, hb0]; exact Blk.new _ _ _
  rw [← hb0]
  have HB0 := Lib.hid hb0
  clear hu0 hb0
  refine Calls.mono (framemay_v ⟨k, s, bo, sq, st, ds, ta, tb, wh, wn, x, y, a, b, d⟩ _ hm _) ?_; rintro e w1 ⟨rfl, hb⟩
  have hb := Lib.hid hb
  replace HB := Lib.hid (HB.out.trans (hb.out.mono (Nat.le_trans (Nat.le_of_lt B0.out.lt) (Nat.le_refl _))))
  replace B0 := Lib.hid (B0.out.keep hb.out)
  obtain ⟨wA, hwA⟩ : ∃ wA, wA = w1 := ⟨_, rfl⟩
  rw [← hwA] at HB B0 ⊢
  clear hwA hb
  have l0 := B0.out.lt
  have q0 : wA.cell? ⟨b0, 0, none⟩ = some (.int .i64 k) := B0.out.cell rfl
  have q1 : wA.cell? ⟨b0, 1, none⟩ = some (.int .i64 s) := B0.out.cell rfl
  have q5 : wA.cell? ⟨b0, 5, none⟩ = some (.int .i64 ds) := B0.out.cell rfl
  have q8 : wA.cell? ⟨b0, 8, none⟩ = some (.int .i64 wh) := B0.out.cell rfl
  have hcv := cv_bytes wA #[.int .u8 97, .int .u8 108, .int .u8 105, .int .u8 49] 4 4
  go_wp2_with fail
  have hown := OwnB.lit (w := wA) (b0 + 1) [97, 108, 105, 49] (by intro c hc; simp at hc; omega) (4, 5)
  have hB1 : Below (b0 + 1) wA (wA.alloc (Obj.cells #[.int .u8 97, .int .u8 108, .int .u8 105, .int .u8 49] 5 (4, 5))) := (Below.refl _ _).alloc (by omega) _
  go_loopw [4, 25] (fun t4 t25 wr => ∃ j : Nat, j ≤ 4 ∧ t25 = .int .i64 j ∧ Hid (OwnB wr (b0 + 1) t4 ([97, 108, 105, 49] ++ fl 1 [k, s, ds, wh] j)) ∧ Hid (Below (b0 + 1) wA wr)) (fun _ t25 _ => 4 - (intOf t25).toNat)
  case atStart => exact ⟨0, by omega, rfl, hown, hB1⟩
  case round =>
    obtain ⟨j, hj, rfl, hO, hBr⟩ := hrel
    have hlen := fl_len 1 [k, s, ds, wh] j hj
    have hsz := hBr.out.size
    by_cases hlt : j < 4
    · have hS := fl_succ 1 [k, s, ds, wh] j hlt
      have i0 := fun w => (ix4i k s ds wh w).1
      have i1 := fun w => (ix4i k s ds wh w).2.1
      have i2 := fun w => (ix4i k s ds wh w).2.2.1
      have i3 := fun w => (ix4i k s ds wh w).2.2.2
      rcases j with _ | _ | _ | _ | j
      all_goals first | (exfalso; omega) | skip
      all_goals go_wp2_with fail
      all_goals (refine Calls.mono (put_h (b0 + 1) _ _ _ 1 (by decide) _ hO (by omega) (by rw [List.length_append, hlen]; simp)) ?_; rintro e w2 ⟨⟨v', rfl, hO2⟩, hb2⟩)
      all_goals replace hBr := Lib.hid (hBr.out.trans hb2)
      all_goals simp only [List.getD_cons_zero, List.getD_cons_succ] at hS
      all_goals rw [List.append_assoc, ← hS] at hO2
      all_goals clear hb2 hO
      all_goals go_wp2_with fail
      all_goals go_roundw
      all_goals first | (refine ⟨_, ?_, ?_, hO2, hBr⟩ <;> first | omega | go_num) | ((repeat apply Exists.intro); refine ⟨⟨_, ?_, ?_, hO2, hBr⟩, rfl⟩ <;> first | omega | go_num) | (simp [intOf]; done)
    · have h4 : j = 4 := by omega
      subst h4
      obtain ⟨P1, hP1⟩ : ∃ P, P = [97, 108, 105, 49] ++ fl 1 [k, s, ds, wh] 4 := ⟨_, rfl⟩
      have lP1 : P1.length = 8 := by rw [hP1, List.length_append, hlen]; rfl
      have HP1 := Lib.hid hP1
      rw [← hP1] at hO
      replace HB := Lib.hid (HB.out.trans (hBr.out.mono (Nat.le_succ _)))
      replace B0 := Lib.hid (B0.out.below hBr.out (Nat.lt_succ_self _))
      obtain ⟨wz1, hwz⟩ : ∃ wz, wz = wr := ⟨_, rfl⟩
      rw [← hwz] at hO HB B0 ⊢
      clear hwz hBr hP1 hlen hj hlt hsz
      clear l0 q0 q1 q5 q8 hcv hown hB1
      have l0 := B0.out.lt
      have q2 : wz1.cell? ⟨b0, 2, none⟩ = some (.int .i64 bo) := B0.out.cell rfl
      have q3 : wz1.cell? ⟨b0, 3, none⟩ = some (.int .i64 sq) := B0.out.cell rfl
      go_wp2_with fail
      go_cut [4] from 32 (fun s4 wc => Hid (OwnB wc (b0 + 1) s4 (P1 ++ be 2 bo ++ be 2 sq)) ∧ Hid (Below (b0 + 1) wz1 wc))
      case first =>
        go_region_held3 (fun w' => w'.cell? ⟨b0, 2, none⟩ = some (.int .i64 bo) ∧ w'.cell? ⟨b0, 3, none⟩ = some (.int .i64 sq)) (go_simp)
          (first
            | (go_at_call 16; refine Calls.mono (put_h (b0 + 1) _ P1 _ 2 (by decide) _ (by repeat (first | with_reducible assumption | with_reducible refine ownH_drew ?_ | with_reducible refine ownH_drewN ?_)) (by first | omega | (simp; done) | (simp; omega) | fail) (by simp only [List.length_append, be_length, lP1]; decide)) ?_; rintro e w2 ⟨⟨v', rfl, hO2⟩, hb2⟩; have hz2 : wz1.heap.size ≤ w2.heap.size := hb2.size; have hc2 : ∀ o, w2.cell? ⟨b0, o, none⟩ = wz1.cell? ⟨b0, o, none⟩ := fun o => hb2.cell (p := ⟨b0, o, none⟩) (Nat.lt_succ_self b0))
            | (go_at_call 16; refine Calls.mono (put_h (b0 + 1) _ (P1 ++ be 2 bo) _ 2 (by decide) _ (by repeat (first | with_reducible assumption | with_reducible refine ownH_drew ?_ | with_reducible refine ownH_drewN ?_)) (by first | omega | (simp; done) | (simp; omega) | fail) (by simp only [List.length_append, be_length, lP1]; decide)) ?_; rintro e w3 ⟨⟨v', rfl, hO3⟩, hb3⟩; have hz3 : w2.heap.size ≤ w3.heap.size := hb3.size; have hc3 : ∀ o, w3.cell? ⟨b0, o, none⟩ = w2.cell? ⟨b0, o, none⟩ := fun o => hb3.cell (p := ⟨b0, o, none⟩) (Nat.lt_succ_self b0)))
        go_wp2_with fail
        go_meet
        exact ⟨hO3, (below_undrew hb2).trans hb3⟩
      case rest =>
        obtain ⟨hO2, hBr⟩ := hcut
        obtain ⟨P2, hP2⟩ : ∃ P, P = P1 ++ be 2 bo ++ be 2 sq := ⟨_, rfl⟩
        have lP2 : P2.length = 12 := by rw [hP2]; simp only [List.length_append, be_length, lP1]
        have HP2 := Lib.hid hP2
        rw [← hP2] at hO2
        replace HB := Lib.hid (HB.out.trans (hBr.out.mono (Nat.le_succ _)))
        replace B0 := Lib.hid (B0.out.below hBr.out (Nat.lt_succ_self _))
        clear hP2 hBr hO
        clear l0 q2 q3
        obtain ⟨wz2, hwz⟩ : ∃ wz, wz = wc := ⟨_, rfl⟩
        rw [← hwz] at hO2 HB B0 ⊢
        clear hwz
        have l0 := B0.out.lt
        have q4 : wz2.cell? ⟨b0, 4, none⟩ = some (.int .i64 st) := B0.out.cell rfl
        have q6 : wz2.cell? ⟨b0, 6, none⟩ = some (.int .i64 ta) := B0.out.cell rfl
        have q7 : wz2.cell? ⟨b0, 7, none⟩ = some (.int .i64 tb) := B0.out.cell rfl
        have q9 : wz2.cell? ⟨b0, 9, none⟩ = some (.int .i64 wn) := B0.out.cell rfl
        go_wp2_with fail
        go_loopw [4, 48] (fun t4 t48 wr => ∃ j : Nat, j ≤ 4 ∧ t48 = .int .i64 j ∧ Hid (OwnB wr (b0 + 1) t4 (P2 ++ fl 8 [st, ta, tb, wn] j)) ∧ Hid (Below (b0 + 1) wz2 wr)) (fun _ t48 _ => 4 - (intOf t48).toNat)
        case atStart => exact ⟨0, by omega, rfl, by rw [show ∀ x : List Nat, x ++ fl 8 [st, ta, tb, wn] 0 = x from fun x => List.append_nil x]; exact hO2, Below.refl _ _⟩
        case round =>
          obtain ⟨j, hj, rfl, hO, hBr⟩ := hrel
          have hlen := fl_len 8 [st, ta, tb, wn] j hj
          have hsz := hBr.out.size
          by_cases hlt : j < 4
          · have hS := fl_succ 8 [st, ta, tb, wn] j hlt
            have i0 := fun w => (ix4l st ta tb wn w).1
            have i1 := fun w => (ix4l st ta tb wn w).2.1
            have i2 := fun w => (ix4l st ta tb wn w).2.2.1
            have i3 := fun w => (ix4l st ta tb wn w).2.2.2
            rcases j with _ | _ | _ | _ | j
            all_goals first | (exfalso; omega) | skip
            all_goals go_wp2_with fail
            all_goals (refine Calls.mono (put_h (b0 + 1) _ _ _ 8 (by decide) _ hO (by omega) (by rw [List.length_append, hlen]; simp; omega)) ?_; rintro e w2 ⟨⟨v', rfl, hO2⟩, hb2⟩)
            all_goals replace hBr := Lib.hid (hBr.out.trans hb2)
            all_goals simp only [List.getD_cons_zero, List.getD_cons_succ] at hS
            all_goals rw [List.append_assoc, ← hS] at hO2
            all_goals clear hb2 hO
            all_goals go_wp2_with fail
            all_goals go_roundw
            all_goals first | (refine ⟨_, ?_, ?_, hO2, hBr⟩ <;> first | omega | go_num) | ((repeat apply Exists.intro); refine ⟨⟨_, ?_, ?_, hO2, hBr⟩, rfl⟩ <;> first | omega | go_num) | (simp [intOf]; done)
          · have h4 : j = 4 := by omega
            subst h4
            obtain ⟨P3, hP3⟩ : ∃ P, P = P2 ++ fl 8 [st, ta, tb, wn] 4 := ⟨_, rfl⟩
            have lP3 : P3.length = 44 := by rw [hP3, List.length_append, hlen]; simp only [List.length_append, be_length, lP2]
            have HP3 := Lib.hid hP3
            rw [← hP3] at hO
            replace HB := Lib.hid (HB.out.trans (hBr.out.mono (Nat.le_succ _)))
            replace B0 := Lib.hid (B0.out.below hBr.out (Nat.lt_succ_self _))
            obtain ⟨wz3, hwz⟩ : ∃ wz, wz = wr := ⟨_, rfl⟩
            rw [← hwz] at hO HB B0 ⊢
            clear hwz hBr hP3 hlen hj hlt hsz
            clear l0 q4 q6 q7 q9 hO2
            have l0 := B0.out.lt
            have q10 : wz3.cell? ⟨b0, 10, none⟩ = some (.int .i64 x) := B0.out.cell rfl
            have q11 : wz3.cell? ⟨b0, 11, none⟩ = some (.int .i64 y) := B0.out.cell rfl
            go_wp2_with fail
            go_cut [4] from 55 (fun s4 wc => Hid (OwnB wc (b0 + 1) s4 (P3 ++ be 4 x ++ be 4 y)) ∧ Hid (Below (b0 + 1) wz3 wc))
            case first =>
              go_region_held3 (fun w' => w'.cell? ⟨b0, 10, none⟩ = some (.int .i64 x) ∧ w'.cell? ⟨b0, 11, none⟩ = some (.int .i64 y)) (go_simp)
                (first
                  | (go_at_call 16; refine Calls.mono (put_h (b0 + 1) _ P3 _ 4 (by decide) _ (by repeat (first | with_reducible assumption | with_reducible refine ownH_drew ?_ | with_reducible refine ownH_drewN ?_)) (by first | omega | (simp; done) | (simp; omega) | fail) (by simp only [List.length_append, be_length, lP3]; decide)) ?_; rintro e w2 ⟨⟨v', rfl, hO2⟩, hb2⟩; have hz2 : wz3.heap.size ≤ w2.heap.size := hb2.size; have hc2 : ∀ o, w2.cell? ⟨b0, o, none⟩ = wz3.cell? ⟨b0, o, none⟩ := fun o => hb2.cell (p := ⟨b0, o, none⟩) (Nat.lt_succ_self b0))
                  | (go_at_call 16; refine Calls.mono (put_h (b0 + 1) _ (P3 ++ be 4 x) _ 4 (by decide) _ (by repeat (first | with_reducible assumption | with_reducible refine ownH_drew ?_ | with_reducible refine ownH_drewN ?_)) (by first | omega | (simp; done) | (simp; omega) | fail) (by simp only [List.length_append, be_length, lP3]; decide)) ?_; rintro e w3 ⟨⟨v', rfl, hO3⟩, hb3⟩; have hz3 : w2.heap.size ≤ w3.heap.size := hb3.size; have hc3 : ∀ o, w3.cell? ⟨b0, o, none⟩ = w2.cell? ⟨b0, o, none⟩ := fun o => hb3.cell (p := ⟨b0, o, none⟩) (Nat.lt_succ_self b0)))
              go_wp2_with fail
              go_meet
              exact ⟨hO3, (below_undrew hb2).trans hb3⟩
            case rest =>
              obtain ⟨hO2, hBr⟩ := hcut
              obtain ⟨P4, hP4⟩ : ∃ P, P = P3 ++ be 4 x ++ be 4 y := ⟨_, rfl⟩
              have lP4 : P4.length = 52 := by rw [hP4]; simp only [List.length_append, be_length, lP3]
              have HP4 := Lib.hid hP4
              rw [← hP4] at hO2
              replace HB := Lib.hid (HB.out.trans (hBr.out.mono (Nat.le_succ _)))
              replace B0 := Lib.hid (B0.out.below hBr.out (Nat.lt_succ_self _))
              clear hP4 hBr hO
              clear l0 q10 q11
              obtain ⟨wz4, hwz⟩ : ∃ wz, wz = wc := ⟨_, rfl⟩
              rw [← hwz] at hO2 HB B0 ⊢
              clear hwz
              have l0 := B0.out.lt
              have q12 : wz4.cell? ⟨b0, 12, none⟩ = some (.int .i64 a) := B0.out.cell rfl
              have q13 : wz4.cell? ⟨b0, 13, none⟩ = some (.int .i64 b) := B0.out.cell rfl
              have q14 : wz4.cell? ⟨b0, 14, none⟩ = some (.int .i64 d) := B0.out.cell rfl
              go_wp2_with fail
              go_loopw [4, 79] (fun t4 t79 wr => ∃ j : Nat, j ≤ 3 ∧ t79 = .int .i64 j ∧ Hid (OwnB wr (b0 + 1) t4 (P4 ++ fl 8 [a, b, d] j)) ∧ Hid (Below (b0 + 1) wz4 wr)) (fun _ t79 _ => 3 - (intOf t79).toNat)
              case atStart => exact ⟨0, by omega, rfl, by rw [show ∀ x : List Nat, x ++ fl 8 [a, b, d] 0 = x from fun x => List.append_nil x]; exact hO2, Below.refl _ _⟩
              case round =>
                obtain ⟨j, hj, rfl, hO, hBr⟩ := hrel
                have hlen := fl_len 8 [a, b, d] j hj
                have hsz := hBr.out.size
                by_cases hlt : j < 3
                · have hS := fl_succ 8 [a, b, d] j hlt
                  have i0 := fun w => (ix3l a b d w).1
                  have i1 := fun w => (ix3l a b d w).2.1
                  have i2 := fun w => (ix3l a b d w).2.2
                  rcases j with _ | _ | _ | j
                  all_goals first | (exfalso; omega) | skip
                  all_goals go_wp2_with fail
                  all_goals (refine Calls.mono (put_h (b0 + 1) _ _ _ 8 (by decide) _ hO (by omega) (by rw [List.length_append, hlen]; simp; omega)) ?_; rintro e w2 ⟨⟨v', rfl, hO2⟩, hb2⟩)
                  all_goals replace hBr := Lib.hid (hBr.out.trans hb2)
                  all_goals simp only [List.getD_cons_zero, List.getD_cons_succ] at hS
                  all_goals rw [List.append_assoc, ← hS] at hO2
                  all_goals clear hb2 hO
                  all_goals go_wp2_with fail
                  all_goals go_roundw
                  all_goals first | (refine ⟨_, ?_, ?_, hO2, hBr⟩ <;> first | omega | go_num) | ((repeat apply Exists.intro); refine ⟨⟨_, ?_, ?_, hO2, hBr⟩, rfl⟩ <;> first | omega | go_num) | (simp [intOf]; done)
                · have h4 : j = 3 := by omega
                  subst h4
                  obtain ⟨P5, hP5⟩ : ∃ P, P = P4 ++ fl 8 [a, b, d] 3 := ⟨_, rfl⟩
                  have lP5 : P5.length = 76 := by rw [hP5, List.length_append, hlen]; simp only [List.length_append, be_length, lP4]
                  have HP5 := Lib.hid hP5
                  rw [← hP5] at hO
                  replace HB := Lib.hid (HB.out.trans (hBr.out.mono (Nat.le_succ _)))
                  replace B0 := Lib.hid (B0.out.below hBr.out (Nat.lt_succ_self _))
                  obtain ⟨wz5, hwz⟩ : ∃ wz, wz = wr := ⟨_, rfl⟩
                  rw [← hwz] at hO HB B0 ⊢
                  clear hwz hBr hP5 hlen hj hlt hsz
                  clear l0 q12 q13 q14 hO2
                  have HP : Hid (bodyL ⟨k, s, bo, sq, st, ds, ta, tb, wh, wn, x, y, a, b, d⟩ = P5) := by show _ = _; rw [HP5.out, HP4.out, HP3.out, HP2.out, HP1.out]; rfl
                  have EV : Hid (encL ⟨k, s, bo, sq, st, ds, ta, tb, wh, wn, x, y, a, b, d⟩ = P5 ++ be 4 (crc P5)) := by show _ = _; unfold encL; rw [HP.out]
                  have l0 := B0.out.lt
                  go_wp2_with fail
                  refine Calls.mono (sum_c _ _ _ hO.out.rd (by omega)) ?_; rintro e w2 ⟨rfl, hb2⟩
                  have hO3 := Lib.hid (hO.out.keep hb2)
                  have hz := hb2.size
                  replace HB := Lib.hid (HB.out.trans (hb2.mono (by omega)))
                  clear hb2 hO
                  have hcl := crc_lt P5
                  go_wp2_with fail
                  refine Calls.mono (put_h (b0 + 1) _ _ _ 4 (by decide) _ hO3 (by omega) (by omega)) ?_; rintro e w3 ⟨⟨v', rfl, hO4⟩, hb3⟩
                  go_wp2_with fail
                  go_ret2
                  refine ⟨⟨_, rfl, ?_⟩, ?_⟩
                  · rw [EV.out, ← HB0.out]; exact hO4.out
                  · rw [← HB0.out]; exact HB.out.trans (hb3.mono (Nat.le_succ _))
end Go.Proofs.Ytdipecepgfaokaa
