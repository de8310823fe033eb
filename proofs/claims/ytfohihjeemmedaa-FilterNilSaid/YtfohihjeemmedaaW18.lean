/- The walk of package wide's Sqrt. -/
import Derived.Test.YtfohihjeemmedaaW17
import Derived.Deep.LoopGhost
import Derived.Deep.CutBlock
namespace Go.Proofs.Ytfohihjeemmedaa
open Go.RowKit

set_option maxRecDepth 100000 in
set_option maxHeartbeats 2000000 in
theorem sqrt_main (x : WI) (ho : x.ov = false) (hn : x.ng = false) (h0 : x.sz ≠ 0) (w : World) :
    Calls Try.prog 73 #[.agg x.cells] w fun e w' => e = .returned (.tuple #[.agg x.sqrt.1.cells, .int .i64 x.sqrt.2]) ∧ Below w.heap.size w w' := by
  rw [WI.sqrt_pos x ho hn]
  have hq : eqW x.sz 0 = false := by rw [eqW_zero _ x.sz_lt']; simp [h0]
  have HLT := Lib.hid x.sz_lt'
  have hbl := (lim_bl x.sz).2 x.sz_lt
  obtain ⟨b, hb⟩ : ∃ b, b = bl x.sz := ⟨_, rfl⟩
  obtain ⟨k, hk⟩ : ∃ k, k = (b + 1) / 2 := ⟨_, rfl⟩
  have hk1 : k ≤ 512 := by omega
  have k1 : wrap64 ((b : Int) + 1) = (b : Int) + 1 := by unfold wrap64; omega
  have k2 : ((b : Int) + 1).tdiv 2 = (k : Int) := by rw [Int.tdiv_eq_ediv_of_nonneg (by omega)]; omega
  have k3 : ((b : Int) + 1) / 2 = (k : Int) := by omega
  have k4 : (b : Int) ≤ 1023 := by omega
  have HF := Lib.hid (newton_first x.sz k (by omega))
  have HKL : Hid (2 ^ k < lim) := by
    have : ∀ n, n = 1023 → 2 ^ k < lim := fun n hn => by rw [lim_eq n hn]; exact Nat.pow_lt_pow_right (by decide) (by omega)
    exact this 1023 rfl
  have HKB : Hid (k < 1024) := by show k < 1024; omega
  have HBE := Lib.hid hb
  have H0 := Lib.hid h0
  have r1 := row_1
  clear hbl hb hk hk1 h0
  go_enter Try.func73, Try.ntmps73
  go_wp2_with fail
  refine (bits_c _ _ x.sz _ HLT.out (.of_wi (((Blk.new _ _ _).alloc _).alloc _))).mono ?_; rintro e w' ⟨rfl, rfl⟩; rw [← HBE.out]
  go_wp2_with fail
  refine (up_c _ _ 1 k _ HKB.out (.of_blk (Blk.new' _ _ _ (by simp)))).mono ?_; rintro e w1 ⟨rfl, hb1⟩; rw [Nat.one_mul]
  have Q0 : Hid (Blk w1 w.heap.size x.cells 68) := (((Blk.new _ _ _).alloc _).alloc _).keep hb1
  have Q1 : Hid (Blk w1 (w.heap.size + 1) (cellsI false false 0) 68) := ((Blk.new' _ _ _ (by simp)).alloc _).keep hb1
  have HB1 : Hid (Below w.heap.size w w1) := (by repeat (first | exact Below.refl _ _ | exact Below_of_hid (by assumption) | refine Below.drew ?_ | refine below_drewN ?_ _ | refine Below_putRow ?_ (by first | omega | (simp; done) | (simp; omega) | fail) _ _ | refine Below.alloc ?_ (by first | omega | (simp; done) | (simp; omega) | fail) _ | refine Below.setCell ?_ (by first | omega | (simp; done) | (simp; omega) | fail) _ | refine Below.trans ?_ (Below.mono (by assumption) (by first | omega | (simp; done) | (simp; omega) | fail))))
  have HG3 : Hid (w.heap.size + 1 + 1 + 1 ≤ w1.heap.size) := by have := hb1.size; simp at this; exact this
  clear hb1
  go_upto_block 2 with fail
  obtain ⟨g, hg⟩ : ∃ g, g = w1.heap.size := ⟨_, rfl⟩
  have QX : Hid (Blk (w1.alloc (.cells (rowW 16 (2 ^ k)) 66)) g (rowW 16 (2 ^ k)) 66) := by rw [hg]; exact Blk.new _ _ _
  replace Q0 := Lib.hid (Q0.out.alloc (.cells (rowW 16 (2 ^ k)) 66))
  replace Q1 := Lib.hid (Q1.out.alloc (.cells (rowW 16 (2 ^ k)) 66))
  have hg1 : w.heap.size + 1 < g := by
    have := Q1.out.lt
    have h2 := HB1.out.size
    rw [hg]
    have h3 : w.heap.size + 1 + 1 + 1 ≤ w1.heap.size := HG3.out
    omega
  replace HB1 := Lib.hid (HB1.out.alloc HB1.out.size (.cells (rowW 16 (2 ^ k)) 66))
  simp only [← hg]
  generalize w1.alloc (.cells (rowW 16 (2 ^ k)) 66) = w2 at *
  clear hg HG3
  go_wp2_with fail
  go_loopg [6, 7, 8, 9] (2 ^ k) (fun X _ _ _ _ wx => Hid (0 < X ∧ X < lim ∧ x.sz < (X + 1) * (X + 1)) ∧ Hid (Below w.heap.size w wx) ∧ Hid (Blk wx w.heap.size x.cells 68) ∧ Hid (Blk wx (w.heap.size + 1) (cellsI false false 0) 68) ∧ Hid (Blk wx g (rowW 16 X) 66))
  case atStart => exact ⟨⟨Nat.two_pow_pos _, HKL.out, HF.out⟩, HB1, Q0, Q1, QX⟩
  case round =>
    clear HB1 Q0 Q1 QX
    obtain ⟨HX, HB1, Q0, Q1, QX⟩ := hrel
    obtain ⟨Y, hY⟩ : ∃ Y, Y = (gk + x.sz / gk) / 2 := ⟨_, rfl⟩
    obtain ⟨S, hS⟩ : ∃ S, S = gk + x.sz / gk := ⟨_, rfl⟩
    have hX0 := HX.out.1
    have hS16 : S < W16 := by
      have h1 := HX.out.2.1
      have h2 := x.sz_lt
      have h3 := Nat.div_le_self x.sz gk
      have h4 := W16_two
      rw [hS]; omega
    have hY16 : Y < W16 := by rw [hY, ← hS]; omega
    have hX16 : gk < W16 := Nat.lt_of_lt_of_le HX.out.2.1 lim_le
    have hstep := newton_step (N := x.sz) hX0
    have hstop := fun h => newton_stop (N := x.sz) hX0 HX.out.2.2 h
    rw [← hY] at hstep hstop
    have hY0 : 0 < Y := by
      rcases Nat.eq_zero_or_pos Y with h | h
      · rw [h] at hstep; have := H0.out; omega
      · exact h
    have HS := Lib.hid hS
    have HY : Hid (Y = S / 2) := by show Y = _; rw [hY, hS]
    have HL : Hid (S < W16 ∧ Y < W16 ∧ gk < W16 ∧ gk ≠ 0) := ⟨hS16, hY16, hX16, by omega⟩
    have HSTOP := Lib.hid hstop
    have HSTEP : Hid (0 < Y ∧ x.sz < (Y + 1) * (Y + 1)) := ⟨hY0, hstep⟩
    have r0 : wr.row? w.heap.size 2 16 = some (rowW 16 x.sz) := by rw [Q0.out.row? 2 16 (by simp)]; simp
    have rX : wr.row? g 0 16 = some (rowW 16 gk) := QX.out.row?_all 16 (by simp)
    have tX : wr.fits g 16 = true := QX.out.fits 16 (by simp)
    have t1 : wr.fits (w.heap.size + 1) 18 = true := Q1.out.fits 18 (by simp)
    have z0 := QX.out.lt
    have y0 : w.heap.size < wr.heap.size := by omega
    have y1 : w.heap.size + 1 < wr.heap.size := by omega
    clear hY hS hX0 hS16 hY16 hX16 hstep hstop hY0
    go_wp2_with fail
    refine (divide_c x.sz gk _ HLT.out HL.out.2.2.1 HL.out.2.2.2).mono ?_; rintro e w3 ⟨rfl, hb3⟩; have z_w3 := hb3.size; (try simp at z_w3); obtain ⟨y_w3_0_0, c_w3_0_0, f_w3_0_0, r_w3_0_0, t_w3_0_0, p_w3_0_0⟩ := bk hb3 (w.heap.size) (by first | omega | (simp; done) | (simp; omega) | fail); obtain ⟨y_w3_0_1, c_w3_0_1, f_w3_0_1, r_w3_0_1, t_w3_0_1, p_w3_0_1⟩ := bk hb3 (w.heap.size + 1) (by first | omega | (simp; done) | (simp; omega) | fail); obtain ⟨y_w3_g, c_w3_g, f_w3_g, r_w3_g, t_w3_g, p_w3_g⟩ := bk hb3 (g) (by first | omega | (simp; done) | (simp; omega) | fail)
    have QX3 := Lib.hid (QX.out.keep hb3)
    have ne1 : ¬ (g = w3.heap.size) := by omega
    have ne2 : ¬ (g = w3.heap.size + 1) := by omega
    go_wp2_with fail
    refine (add_c _ _ _ _ gk (x.sz / gk) _ (.of_blk ((QX3.out.alloc _).alloc _)) (.of_blk ((Blk.new _ _ _).alloc _))).mono ?_; rintro e w4 ⟨rfl, hb4⟩; rw [← HS.out]; have z_w4 := hb4.size; (try simp at z_w4); obtain ⟨y_w4_0_0, c_w4_0_0, f_w4_0_0, r_w4_0_0, t_w4_0_0, p_w4_0_0⟩ := bk hb4 (w.heap.size) (by first | omega | (simp; done) | (simp; omega) | fail); obtain ⟨y_w4_0_1, c_w4_0_1, f_w4_0_1, r_w4_0_1, t_w4_0_1, p_w4_0_1⟩ := bk hb4 (w.heap.size + 1) (by first | omega | (simp; done) | (simp; omega) | fail); obtain ⟨y_w4_g, c_w4_g, f_w4_g, r_w4_g, t_w4_g, p_w4_g⟩ := bk hb4 (g) (by first | omega | (simp; done) | (simp; omega) | fail)
    have QX4 := Lib.hid (((QX3.out.alloc _).alloc _).keep hb4)
    have ne3 : ¬ (g = w4.heap.size) := by omega
    have ne4 : ¬ (w.heap.size + 1 = w4.heap.size) := by omega
    go_wp2_with fail
    refine (down_c _ _ S 1 _ HL.out.1 (by omega) (.of_blk (Blk.new _ _ _))).mono ?_; rintro e w5 ⟨rfl, hb5⟩; rw [Nat.pow_one, ← HY.out]; have z_w5 := hb5.size; (try simp at z_w5); obtain ⟨y_w5_0_0, c_w5_0_0, f_w5_0_0, r_w5_0_0, t_w5_0_0, p_w5_0_0⟩ := bk hb5 (w.heap.size) (by first | omega | (simp; done) | (simp; omega) | fail); obtain ⟨y_w5_0_1, c_w5_0_1, f_w5_0_1, r_w5_0_1, t_w5_0_1, p_w5_0_1⟩ := bk hb5 (w.heap.size + 1) (by first | omega | (simp; done) | (simp; omega) | fail); obtain ⟨y_w5_1_0, c_w5_1_0, f_w5_1_0, r_w5_1_0, t_w5_1_0, p_w5_1_0⟩ := bk hb5 (w4.heap.size) (by first | omega | (simp; done) | (simp; omega) | fail); obtain ⟨y_w5_g, c_w5_g, f_w5_g, r_w5_g, t_w5_g, p_w5_g⟩ := bk hb5 (g) (by first | omega | (simp; done) | (simp; omega) | fail)
    have QX5 := Lib.hid ((QX4.out.alloc _).keep hb5)
    have QS5 := Lib.hid (Blk.keep (Blk.new w4 (rowW 16 S) 66) hb5)
    have tS : w5.fits w4.heap.size 16 = true := QS5.out.fits 16 (by simp)
    have pS := QS5.out.put? 0 (rowW 16 Y) (by simp) (by simp)
    have QY5 : Hid (Blk (w5.putRow w4.heap.size 0 (rowW 16 Y)) w4.heap.size (rowW 16 Y) 66) := by
      have := QS5.out.putRow_same 0 (rowW 16 Y); rw [splice_all _ _ (by simp)] at this; exact this
    have QX6 : Hid (Blk (w5.putRow w4.heap.size 0 (rowW 16 Y)) g (rowW 16 gk) 66) := QX5.out.putRow_other ne3 0 _
    go_wp2_with fail
    refine (cmp_c _ _ _ _ Y gk _ HL.out.2.1 HL.out.2.2.1 (.of_blk QY5.out) (.of_blk QX6.out)).mono ?_; rintro e w6 ⟨rfl, hb6⟩; have z_w6 := hb6.size; (try simp at z_w6); obtain ⟨y_w6_0_0, c_w6_0_0, f_w6_0_0, r_w6_0_0, t_w6_0_0, p_w6_0_0⟩ := bk hb6 (w.heap.size) (by first | omega | (simp; done) | (simp; omega) | fail); obtain ⟨y_w6_0_1, c_w6_0_1, f_w6_0_1, r_w6_0_1, t_w6_0_1, p_w6_0_1⟩ := bk hb6 (w.heap.size + 1) (by first | omega | (simp; done) | (simp; omega) | fail); obtain ⟨y_w6_1_0, c_w6_1_0, f_w6_1_0, r_w6_1_0, t_w6_1_0, p_w6_1_0⟩ := bk hb6 (w4.heap.size) (by first | omega | (simp; done) | (simp; omega) | fail); obtain ⟨y_w6_g, c_w6_g, f_w6_g, r_w6_g, t_w6_g, p_w6_g⟩ := bk hb6 (g) (by first | omega | (simp; done) | (simp; omega) | fail)
    have rY6 : w6.row? w4.heap.size 0 16 = some (rowW 16 Y) := (QY5.out.keep hb6).row?_all 16 (by simp)
    have rX6 : w6.row? g 0 16 = some (rowW 16 gk) := (QX6.out.keep hb6).row?_all 16 (by simp)
    have pX6 := (QX6.out.keep hb6).put? 0 (rowW 16 Y) (by simp) (by simp)
    have HB6 : Hid (Below w.heap.size w w6) := by
      have h1 := HB1.out.size
      exact Lib.hid (((((((((HB1.out).trans (hb3.mono h1)).alloc (by omega) _).alloc (by simp; omega) _).trans (hb4.mono (by simp; omega))).alloc (by omega) _).trans (hb5.mono (by simp; omega))) |> fun h => (Below_putRow h (by omega) 0 (rowW 16 Y)).trans (hb6.mono (by simp; omega))))
    have Q06 : Hid (Blk w6 w.heap.size x.cells 68) := by
      have h3 := Q0.out.keep hb3
      have h4 := ((h3.alloc (.cells (rowW 16 (x.sz / gk)) 66)).alloc (.cells (rowW 16 (x.sz % gk)) 66)).keep hb4
      have h5 := (h4.alloc (.cells (rowW 16 S) 66)).keep hb5
      exact (h5.putRow_other (by omega) 0 (rowW 16 Y)).keep hb6
    have Q16 : Hid (Blk w6 (w.heap.size + 1) (cellsI false false 0) 68) := by
      have h3 := Q1.out.keep hb3
      have h4 := ((h3.alloc (.cells (rowW 16 (x.sz / gk)) 66)).alloc (.cells (rowW 16 (x.sz % gk)) 66)).keep hb4
      have h5 := (h4.alloc (.cells (rowW 16 S) 66)).keep hb5
      exact (h5.putRow_other (by omega) 0 (rowW 16 Y)).keep hb6
    have QX7 := Lib.hid (QX6.out.keep hb6)
    have z6 := QX7.out.lt
    by_cases hge : gk ≤ Y
    · have hc := cmpN_ge hge
      have HRT := Lib.hid (HSTOP.out hge)
      have t16 : w6.fits (w.heap.size + 1) 18 = true := Q16.out.fits 18 (by simp)
      have y16 : w.heap.size + 1 < w6.heap.size := Q16.out.lt
      have HX16 := HL.out.2.2.1
      have HXH := Lib.hid HX16
      clear hge HX16 hb3 hb4 hb5 hb6
      go_wp2_with fail
      refine (made_c false gk HXH.out _).mono ?_; rintro e w7 ⟨rfl, hb7⟩
      have p7 := (Q16.out.keep hb7).put? 0 (WI.of (sgn false gk)).cells (by simp) (by simp)
      have r7 := row_put p7 (n := 18) (by simp)
      go_wp2_with fail
      exact bodyPost_row_t 18 (WI.of (sgn false gk)).cells (.int .i64 0) rfl rfl rfl rfl Try.underlying68 rfl info_Int r7 ⟨by rw [HRT.out]; rfl, Below_putRow (HB6.out.trans (hb7.mono HB6.out.size)) (by omega) _ _⟩
    · have hc : cmpN Y gk = -1 := by unfold cmpN; rw [if_pos (by omega)]
      have HLT2 : Hid (Y < gk) := by show Y < gk; omega
      clear hge hb3 hb4 hb5 hb6
      go_wp2_with fail
      go_roundg Y
      case measure => exact HLT2.out
      case rel =>
        have h7 := QX7.out.putRow_same 0 (rowW 16 Y)
        rw [splice_all _ _ (by simp)] at h7
        have h1 := HB6.out.size
        exact ⟨⟨HSTEP.out.1, by have := HX.out.2.1; have := HLT2.out; omega, HSTEP.out.2⟩, Below_putRow HB6.out (by omega) _ _, Q06.out.putRow_other (by omega) _ _, Q16.out.putRow_other (by omega) _ _, h7⟩

/-- Sqrt. -/
theorem sqrt_I (x : WI) (w : World) :
    Calls Try.prog 73 #[.agg x.cells] w fun e w' => e = .returned (.tuple #[.agg x.sqrt.1.cells, .int .i64 x.sqrt.2]) ∧ Below w.heap.size w w' := by
  by_cases h : x.ov = true ∨ x.ng = true ∨ x.sz = 0
  · exact sqrt_easy x h w
  · exact sqrt_main x (by simpa using fun h1 => h (.inl h1)) (by simpa using fun h1 => h (.inr (.inl h1))) (fun h1 => h (.inr (.inr h1))) w
end Go.Proofs.Ytfohihjeemmedaa
