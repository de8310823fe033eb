/- The walk of MatQuads. -/
import Derived.Test.YtcmgcndgdfblcaaL0
import Derived.Test.YtcmgcndgdfblcaaLq
import Derived.BigRegion
namespace Go.Proofs.Ytcmgcndgdfblcaa
open Go.RowKit

theorem quad_f (a b d x y : Int) (ha : I64 a) (hb : I64 b) (hd : I64 d) (hx : I64 x) (hy : I64 y) (w : World) :
    Calls Try.prog 14 #[symV a b d, ptV x y] w fun e w' => e = .returned (.agg (WI.of (form a b d x y)).cells) ∧ Below w.heap.size w w' :=
  quad_c a b d x y ha hb hd hx hy w
/-- Two sides and two diagonals. -/
theorem diagonals (a b d X Y X' Y' : Int) (ha : I64 a) (hb : I64 b) (hd : I64 d) (hX : I64 X) (hY : I64 Y) (hX' : I64 X') (hY' : I64 Y') (h1 : I64 (X + X')) (h2 : I64 (Y + Y')) (h3 : I64 (X - X')) (h4 : I64 (Y - Y')) :
    (((WI.of (form a b d X Y)).add (WI.of (form a b d X' Y'))).add ((WI.of (form a b d X Y)).add (WI.of (form a b d X' Y')))) = (WI.of (form a b d (X + X') (Y + Y'))).add (WI.of (form a b d (X - X') (Y - Y'))) := by
  have s1 := form_sm a b d X Y ha hb hd hX hY
  have s2 := form_sm a b d X' Y' ha hb hd hX' hY'
  have s3 := form_sm a b d _ _ ha hb hd h1 h2
  have s4 := form_sm a b d _ _ ha hb hd h3 h4
  rw [WI.of_add (s1.lim (by decide)) (s2.lim (by decide)), WI.of_add (s3.lim (by decide)) (s4.lim (by decide)), WI.of_add ((s1.add s2).lim (by decide)) ((s1.add s2).lim (by decide))]
  congr 1
  unfold form
  grind
theorem tmod40 (x : Int) : -1099511627776 < x.tmod 1099511627776 ∧ x.tmod 1099511627776 < 1099511627776 := by
  have h1 := Int.tmod_lt_of_pos x (show (0 : Int) < 1099511627776 by decide)
  have h2 := Int.lt_tmod_of_pos x (show (0 : Int) < 1099511627776 by decide)
  exact ⟨h2, h1⟩

set_option maxRecDepth 100000 in
set_option maxHeartbeats 4000000 in
theorem matQuads_c (a b d x y x' y' : Int) (ha : I64 a) (hb : I64 b) (hd : I64 d) (w : World) :
    Calls Try.prog 5 #[symV a b d, ptV x y, ptV x' y'] w fun e w' => e = .returned (.bool true) ∧ Below w.heap.size w w' := by
  have HA := Lib.hid ha
  have HB := Lib.hid hb
  have HD := Lib.hid hd
  clear ha hb hd
  obtain ⟨X, hX⟩ : ∃ X, X = x.tmod 1099511627776 := ⟨_, rfl⟩
  obtain ⟨Y, hY⟩ : ∃ X, X = y.tmod 1099511627776 := ⟨_, rfl⟩
  obtain ⟨X', hX'⟩ : ∃ X, X = x'.tmod 1099511627776 := ⟨_, rfl⟩
  obtain ⟨Y', hY'⟩ : ∃ X, X = y'.tmod 1099511627776 := ⟨_, rfl⟩
  have BX := Lib.hid (hX ▸ tmod40 x)
  have BY := Lib.hid (hY ▸ tmod40 y)
  have BX' := Lib.hid (hX' ▸ tmod40 x')
  have BY' := Lib.hid (hY' ▸ tmod40 y')
  replace hX := hX.symm
  replace hY := hY.symm
  replace hX' := hX'.symm
  replace hY' := hY'.symm
  go_enter Try.func5, Try.ntmps5
  go_wp2_with fail
  go_cut [] from 11 (fun wc => wc.cell? ⟨w.heap.size, 0, none⟩ = some (.int .i64 a) ∧ wc.cell? ⟨w.heap.size, 1, none⟩ = some (.int .i64 b) ∧ wc.cell? ⟨w.heap.size, 2, none⟩ = some (.int .i64 d) ∧
    wc.cell? ⟨w.heap.size + 1, 0, none⟩ = some (.int .i64 X) ∧ wc.cell? ⟨w.heap.size + 1, 1, none⟩ = some (.int .i64 Y) ∧ wc.cell? ⟨w.heap.size + 1 + 1, 0, none⟩ = some (.int .i64 X') ∧ wc.cell? ⟨w.heap.size + 1 + 1, 1, none⟩ = some (.int .i64 Y') ∧
    w.heap.size + 1 + 1 + 1 ≤ wc.heap.size ∧ Hid (Below w.heap.size w wc))
  case first =>
    go_region
    all_goals go_wp2_with fail
    all_goals go_meet
    all_goals exact ⟨(by go_simp), (by go_simp), (by go_simp), (by go_simp), (by go_simp), (by go_simp), (by go_simp), (by first | omega | (simp; done) | (simp; omega) | fail), (by repeat (first | exact Below.refl _ _ | exact Below_of_hid (by assumption) | refine Below.drew ?_ | refine below_drewN ?_ _ | refine Below_putRow ?_ (by first | omega | (simp; done) | (simp; omega) | fail) _ _ | refine Below.alloc ?_ (by first | omega | (simp; done) | (simp; omega) | fail) _ | refine Below.setCell ?_ (by first | omega | (simp; done) | (simp; omega) | fail) _ | refine Below.trans ?_ (Below.mono (by assumption) (by first | omega | (simp; done) | (simp; omega) | fail))))⟩
  case rest =>
    obtain ⟨c0, c1, c2, c3, c4, c5, c6, hz, HBL⟩ := hcut
    have y0 : w.heap.size < wc.heap.size := by omega
    have y1 : w.heap.size + 1 < wc.heap.size := by omega
    have y2 : w.heap.size + 1 + 1 < wc.heap.size := by omega
    obtain ⟨U, hU⟩ : ∃ U, U = X + X' := ⟨_, rfl⟩
    obtain ⟨V, hV⟩ : ∃ U, U = Y + Y' := ⟨_, rfl⟩
    obtain ⟨U', hU'⟩ : ∃ U, U = X - X' := ⟨_, rfl⟩
    obtain ⟨V', hV'⟩ : ∃ U, U = Y - Y' := ⟨_, rfl⟩
    have w1 : IntKind.i64.wrap (X + X') = U := by rw [hU, IntKind.wrap_i64]; have := BX.out; have := BX'.out; omega
    have w2 : IntKind.i64.wrap (Y + Y') = V := by rw [hV, IntKind.wrap_i64]; have := BY.out; have := BY'.out; omega
    have w3 : IntKind.i64.wrap (X - X') = U' := by rw [hU', IntKind.wrap_i64]; have := BX.out; have := BX'.out; omega
    have w4 : IntKind.i64.wrap (Y - Y') = V' := by rw [hV', IntKind.wrap_i64]; have := BY.out; have := BY'.out; omega
    have IX : Hid (I64 X) := show I64 _ from by have := BX.out; exact ⟨by omega, by omega⟩
    have IY : Hid (I64 Y) := show I64 _ from by have := BY.out; exact ⟨by omega, by omega⟩
    have IX' : Hid (I64 X') := show I64 _ from by have := BX'.out; exact ⟨by omega, by omega⟩
    have IY' : Hid (I64 Y') := show I64 _ from by have := BY'.out; exact ⟨by omega, by omega⟩
    have J1 : Hid (I64 U) := show I64 _ from by rw [hU]; have := BX.out; have := BX'.out; exact ⟨by omega, by omega⟩
    have J2 : Hid (I64 V) := show I64 _ from by rw [hV]; have := BY.out; have := BY'.out; exact ⟨by omega, by omega⟩
    have J3 : Hid (I64 U') := show I64 _ from by rw [hU']; have := BX.out; have := BX'.out; exact ⟨by omega, by omega⟩
    have J4 : Hid (I64 V') := show I64 _ from by rw [hV']; have := BY.out; have := BY'.out; exact ⟨by omega, by omega⟩
    have E := Lib.hid (diagonals a b d X Y X' Y' HA.out HB.out HD.out IX.out IY.out IX'.out IY'.out (hU ▸ J1.out) (hV ▸ J2.out) (hU' ▸ J3.out) (hV' ▸ J4.out))
    rw [← hU, ← hV, ← hU', ← hV'] at E
    clear hU hV hU' hV'
    obtain ⟨q1, Q1⟩ : ∃ q, Hid (q = form a b d X Y) := ⟨_, rfl⟩
    obtain ⟨q2, Q2⟩ : ∃ q, Hid (q = form a b d X' Y') := ⟨_, rfl⟩
    obtain ⟨q3, Q3⟩ : ∃ q, Hid (q = form a b d U V) := ⟨_, rfl⟩
    obtain ⟨q4, Q4⟩ : ∃ q, Hid (q = form a b d U' V') := ⟨_, rfl⟩
    rw [← Q1.out, ← Q2.out, ← Q3.out, ← Q4.out] at E
    clear BX BY BX' BY' hX hY hX' hY'
    have n0 : ¬ (w.heap.size = wc.heap.size) := by omega
    have n1 : ¬ (w.heap.size + 1 = wc.heap.size) := by omega
    have n2 : ¬ (w.heap.size + 1 + 1 = wc.heap.size) := by omega
    have n3 : ¬ (w.heap.size = wc.heap.size + 1) := by omega
    have n4 : ¬ (w.heap.size + 1 + 1 = wc.heap.size + 1) := by omega
    go_wp2_with fail
    go_cut [7, 8] from 11 (fun s7 s8 wc => ∃ g h, s7 = .pointer (some ⟨g, 0, none⟩) ∧ s8 = .pointer (some ⟨h, 0, none⟩) ∧ w.heap.size + 1 + 1 + 1 ≤ g ∧ g < wc.heap.size ∧ h < wc.heap.size ∧
      wc.cell? ⟨g, 0, none⟩ = some (.int .i64 U) ∧ wc.cell? ⟨g, 1, none⟩ = some (.int .i64 V) ∧ wc.cell? ⟨h, 0, none⟩ = some (.int .i64 U') ∧ wc.cell? ⟨h, 1, none⟩ = some (.int .i64 V') ∧
      wc.cell? ⟨w.heap.size, 0, none⟩ = some (.int .i64 a) ∧ wc.cell? ⟨w.heap.size, 1, none⟩ = some (.int .i64 b) ∧ wc.cell? ⟨w.heap.size, 2, none⟩ = some (.int .i64 d) ∧
      wc.cell? ⟨w.heap.size + 1, 0, none⟩ = some (.int .i64 X) ∧ wc.cell? ⟨w.heap.size + 1, 1, none⟩ = some (.int .i64 Y) ∧ wc.cell? ⟨w.heap.size + 1 + 1, 0, none⟩ = some (.int .i64 X') ∧ wc.cell? ⟨w.heap.size + 1 + 1, 1, none⟩ = some (.int .i64 Y') ∧ Hid (Below w.heap.size w wc))
    case first =>
      go_region_held3 (fun w' => w'.cell? ⟨w.heap.size + 1, 0, none⟩ = some (.int .i64 X) ∧ w'.cell? ⟨w.heap.size + 1, 1, none⟩ = some (.int .i64 Y) ∧ w'.cell? ⟨w.heap.size + 1 + 1, 0, none⟩ = some (.int .i64 X') ∧ w'.cell? ⟨w.heap.size + 1 + 1, 1, none⟩ = some (.int .i64 Y')) (go_simp) (fail)
      all_goals go_wp2_with fail
      all_goals go_meet
      all_goals exact ⟨_, _, rfl, rfl, (by first | omega | (simp; done) | (simp; omega) | fail), (by first | omega | (simp; done) | (simp; omega) | fail), (by first | omega | (simp; done) | (simp; omega) | fail), (by go_simp), (by go_simp), (by go_simp), (by go_simp), (by go_simp), (by go_simp), (by go_simp), (by go_simp), (by go_simp), (by go_simp), (by go_simp), (by repeat (first | exact Below.refl _ _ | exact Below_of_hid (by assumption) | refine Below.drew ?_ | refine below_drewN ?_ _ | refine Below_putRow ?_ (by first | omega | (simp; done) | (simp; omega) | fail) _ _ | refine Below.alloc ?_ (by first | omega | (simp; done) | (simp; omega) | fail) _ | refine Below.setCell ?_ (by first | omega | (simp; done) | (simp; omega) | fail) _ | refine Below.trans ?_ (Below.mono (by assumption) (by first | omega | (simp; done) | (simp; omega) | fail))))⟩
    case rest =>
      obtain ⟨g, h, rfl, rfl, hg0, hg1, hh1, cg0, cg1, ch0, ch1, c0, c1, c2, c3, c4, c5, c6, HBL⟩ := hcut
      clear n0 n1 n2 n3 n4
      have y0 : w.heap.size < wc.heap.size := by omega
      have y1 : w.heap.size + 1 < wc.heap.size := by omega
      have y2 : w.heap.size + 1 + 1 < wc.heap.size := by omega
      go_wp2_with fail
      go_cut [9] from 11 (fun s9 wc => ∃ k, s9 = .pointer (some ⟨k, 0, none⟩) ∧ w.heap.size + 1 + 1 + 1 ≤ k ∧ k < wc.heap.size ∧ wc.row? k 0 18 = some ((WI.of q3).add (WI.of q4)).cells ∧
        wc.cell? ⟨w.heap.size, 0, none⟩ = some (.int .i64 a) ∧ wc.cell? ⟨w.heap.size, 1, none⟩ = some (.int .i64 b) ∧ wc.cell? ⟨w.heap.size, 2, none⟩ = some (.int .i64 d) ∧
        wc.cell? ⟨w.heap.size + 1, 0, none⟩ = some (.int .i64 X) ∧ wc.cell? ⟨w.heap.size + 1, 1, none⟩ = some (.int .i64 Y) ∧ wc.cell? ⟨w.heap.size + 1 + 1, 0, none⟩ = some (.int .i64 X') ∧ wc.cell? ⟨w.heap.size + 1 + 1, 1, none⟩ = some (.int .i64 Y') ∧ Hid (Below w.heap.size w wc))
      case first =>
        go_region_held3 (fun w' => w'.cell? ⟨w.heap.size, 0, none⟩ = some (.int .i64 a) ∧ w'.cell? ⟨w.heap.size, 1, none⟩ = some (.int .i64 b) ∧ w'.cell? ⟨w.heap.size, 2, none⟩ = some (.int .i64 d) ∧
            w'.cell? ⟨g, 0, none⟩ = some (.int .i64 U) ∧ w'.cell? ⟨g, 1, none⟩ = some (.int .i64 V) ∧ w'.cell? ⟨h, 0, none⟩ = some (.int .i64 U') ∧ w'.cell? ⟨h, 1, none⟩ = some (.int .i64 V')) (go_simp)
          (first
            | (go_at_call 14; refine (quad_f a b d _ _ HA.out HB.out HD.out (by first | with_reducible exact J1.out | with_reducible exact J3.out) (by first | with_reducible exact J2.out | with_reducible exact J4.out) _).mono ?_; first | (rw [← Q3.out]; rintro e w1 ⟨rfl, hb⟩; have z_w1 := hb.size; (try simp at z_w1); obtain ⟨y_w1_0_0, c_w1_0_0, f_w1_0_0, r_w1_0_0, t_w1_0_0, p_w1_0_0⟩ := bk hb (w.heap.size) (by first | omega | (simp; done) | (simp; omega) | fail); obtain ⟨y_w1_0_1, c_w1_0_1, f_w1_0_1, r_w1_0_1, t_w1_0_1, p_w1_0_1⟩ := bk hb (w.heap.size + 1) (by first | omega | (simp; done) | (simp; omega) | fail); obtain ⟨y_w1_0_2, c_w1_0_2, f_w1_0_2, r_w1_0_2, t_w1_0_2, p_w1_0_2⟩ := bk hb (w.heap.size + 1 + 1) (by first | omega | (simp; done) | (simp; omega) | fail); obtain ⟨y_w1_g, c_w1_g, f_w1_g, r_w1_g, t_w1_g, p_w1_g⟩ := bk hb (g) (by first | omega | (simp; done) | (simp; omega) | fail); obtain ⟨y_w1_h, c_w1_h, f_w1_h, r_w1_h, t_w1_h, p_w1_h⟩ := bk hb (h) (by first | omega | (simp; done) | (simp; omega) | fail); (try (refine with_imp (bk hb (wc.heap.size)) ?_ ?_; (focus (first | omega | (simp; done) | (simp; omega))); rintro ⟨y_w1_q3, c_w1_q3, f_w1_q3, r_w1_q3, t_w1_q3, p_w1_q3⟩; have ngg_w1_q3 : ¬ (g = wc.heap.size) := (by omega); have ngh_w1_q3 : ¬ (h = wc.heap.size) := (by omega); have n0_w1_q3 : ¬ (w.heap.size = wc.heap.size) := (by omega); have n1_w1_q3 : ¬ (w.heap.size + 1 = wc.heap.size) := (by omega); have n2_w1_q3 : ¬ (w.heap.size + 1 + 1 = wc.heap.size) := (by omega)))) | (rw [← Q4.out]; rintro e w2 ⟨rfl, hb⟩; have z_w2 := hb.size; (try simp at z_w2); obtain ⟨y_w2_0_0, c_w2_0_0, f_w2_0_0, r_w2_0_0, t_w2_0_0, p_w2_0_0⟩ := bk hb (w.heap.size) (by first | omega | (simp; done) | (simp; omega) | fail); obtain ⟨y_w2_0_1, c_w2_0_1, f_w2_0_1, r_w2_0_1, t_w2_0_1, p_w2_0_1⟩ := bk hb (w.heap.size + 1) (by first | omega | (simp; done) | (simp; omega) | fail); obtain ⟨y_w2_0_2, c_w2_0_2, f_w2_0_2, r_w2_0_2, t_w2_0_2, p_w2_0_2⟩ := bk hb (w.heap.size + 1 + 1) (by first | omega | (simp; done) | (simp; omega) | fail); obtain ⟨y_w2_g, c_w2_g, f_w2_g, r_w2_g, t_w2_g, p_w2_g⟩ := bk hb (g) (by first | omega | (simp; done) | (simp; omega) | fail); obtain ⟨y_w2_h, c_w2_h, f_w2_h, r_w2_h, t_w2_h, p_w2_h⟩ := bk hb (h) (by first | omega | (simp; done) | (simp; omega) | fail); (try (refine with_imp (bk hb (wc.heap.size)) ?_ ?_; (focus (first | omega | (simp; done) | (simp; omega))); rintro ⟨y_w2_q3, c_w2_q3, f_w2_q3, r_w2_q3, t_w2_q3, p_w2_q3⟩; have ngg_w2_q3 : ¬ (g = wc.heap.size) := (by omega); have ngh_w2_q3 : ¬ (h = wc.heap.size) := (by omega); have n0_w2_q3 : ¬ (w.heap.size = wc.heap.size) := (by omega); have n1_w2_q3 : ¬ (w.heap.size + 1 = wc.heap.size) := (by omega); have n2_w2_q3 : ¬ (w.heap.size + 1 + 1 = wc.heap.size) := (by omega))); (try (refine with_imp (bk hb (w1.heap.size)) ?_ ?_; (focus (first | omega | (simp; done) | (simp; omega))); rintro ⟨y_w2_q4, c_w2_q4, f_w2_q4, r_w2_q4, t_w2_q4, p_w2_q4⟩; have ngg_w2_q4 : ¬ (g = w1.heap.size) := (by omega); have ngh_w2_q4 : ¬ (h = w1.heap.size) := (by omega); have n0_w2_q4 : ¬ (w.heap.size = w1.heap.size) := (by omega); have n1_w2_q4 : ¬ (w.heap.size + 1 = w1.heap.size) := (by omega); have n2_w2_q4 : ¬ (w.heap.size + 1 + 1 = w1.heap.size) := (by omega)))))
            | (go_at_call 13; refine (add_I _ _ _).mono ?_; rintro e w3 ⟨rfl, hb3⟩; have z_w3 := hb3.size; (try simp at z_w3); obtain ⟨y_w3_0_0, c_w3_0_0, f_w3_0_0, r_w3_0_0, t_w3_0_0, p_w3_0_0⟩ := bk hb3 (w.heap.size) (by first | omega | (simp; done) | (simp; omega) | fail); obtain ⟨y_w3_0_1, c_w3_0_1, f_w3_0_1, r_w3_0_1, t_w3_0_1, p_w3_0_1⟩ := bk hb3 (w.heap.size + 1) (by first | omega | (simp; done) | (simp; omega) | fail); obtain ⟨y_w3_0_2, c_w3_0_2, f_w3_0_2, r_w3_0_2, t_w3_0_2, p_w3_0_2⟩ := bk hb3 (w.heap.size + 1 + 1) (by first | omega | (simp; done) | (simp; omega) | fail); obtain ⟨y_w3_g, c_w3_g, f_w3_g, r_w3_g, t_w3_g, p_w3_g⟩ := bk hb3 (g) (by first | omega | (simp; done) | (simp; omega) | fail); obtain ⟨y_w3_h, c_w3_h, f_w3_h, r_w3_h, t_w3_h, p_w3_h⟩ := bk hb3 (h) (by first | omega | (simp; done) | (simp; omega) | fail); (try (refine with_imp (bk hb3 (wc.heap.size)) ?_ ?_; (focus (first | omega | (simp; done) | (simp; omega))); rintro ⟨y_w3_q3, c_w3_q3, f_w3_q3, r_w3_q3, t_w3_q3, p_w3_q3⟩; have ngg_w3_q3 : ¬ (g = wc.heap.size) := (by omega); have ngh_w3_q3 : ¬ (h = wc.heap.size) := (by omega); have n0_w3_q3 : ¬ (w.heap.size = wc.heap.size) := (by omega); have n1_w3_q3 : ¬ (w.heap.size + 1 = wc.heap.size) := (by omega); have n2_w3_q3 : ¬ (w.heap.size + 1 + 1 = wc.heap.size) := (by omega))); (try (refine with_imp (bk hb3 (w1.heap.size)) ?_ ?_; (focus (first | omega | (simp; done) | (simp; omega))); rintro ⟨y_w3_q4, c_w3_q4, f_w3_q4, r_w3_q4, t_w3_q4, p_w3_q4⟩; have ngg_w3_q4 : ¬ (g = w1.heap.size) := (by omega); have ngh_w3_q4 : ¬ (h = w1.heap.size) := (by omega); have n0_w3_q4 : ¬ (w.heap.size = w1.heap.size) := (by omega); have n1_w3_q4 : ¬ (w.heap.size + 1 = w1.heap.size) := (by omega); have n2_w3_q4 : ¬ (w.heap.size + 1 + 1 = w1.heap.size) := (by omega))); (try (refine with_imp (bk hb3 (w2.heap.size)) ?_ ?_; (focus (first | omega | (simp; done) | (simp; omega))); rintro ⟨y_w3_q5, c_w3_q5, f_w3_q5, r_w3_q5, t_w3_q5, p_w3_q5⟩; have ngg_w3_q5 : ¬ (g = w2.heap.size) := (by omega); have ngh_w3_q5 : ¬ (h = w2.heap.size) := (by omega); have n0_w3_q5 : ¬ (w.heap.size = w2.heap.size) := (by omega); have n1_w3_q5 : ¬ (w.heap.size + 1 = w2.heap.size) := (by omega); have n2_w3_q5 : ¬ (w.heap.size + 1 + 1 = w2.heap.size) := (by omega)))))
        all_goals go_wp2_with fail
        all_goals go_meet
        all_goals exact ⟨_, rfl, (by first | omega | (simp; done) | (simp; omega) | fail), (by first | omega | (simp; done) | (simp; omega) | fail), (by go_simp), (by go_simp), (by go_simp), (by go_simp), (by go_simp), (by go_simp), (by go_simp), (by go_simp), (by repeat (first | exact Below.refl _ _ | exact Below_of_hid (by assumption) | refine Below.drew ?_ | refine below_drewN ?_ _ | refine Below_putRow ?_ (by first | omega | (simp; done) | (simp; omega) | fail) _ _ | refine Below.alloc ?_ (by first | omega | (simp; done) | (simp; omega) | fail) _ | refine Below.setCell ?_ (by first | omega | (simp; done) | (simp; omega) | fail) _ | refine Below.trans ?_ (Below.mono (by assumption) (by first | omega | (simp; done) | (simp; omega) | fail))))⟩
      case rest =>
        clear c0 c1 c2 c3 c4 c5 c6 HBL y0 y1 y2
        obtain ⟨k, rfl, hk0, hk1, hkr, c0, c1, c2, c3, c4, c5, c6, HBL⟩ := hcut
        have y0 : w.heap.size < wc.heap.size := by omega
        have y1 : w.heap.size + 1 < wc.heap.size := by omega
        have y2 : w.heap.size + 1 + 1 < wc.heap.size := by omega
        go_wp2_with fail
        go_cut [10] from 11 (fun s10 wc => ∃ l, s10 = .pointer (some ⟨l, 0, none⟩) ∧ l < wc.heap.size ∧ wc.row? l 0 18 = some ((WI.of q1).add (WI.of q2)).cells ∧
          k < wc.heap.size ∧ wc.row? k 0 18 = some ((WI.of q3).add (WI.of q4)).cells ∧ w.heap.size + 1 + 1 + 1 ≤ wc.heap.size ∧ Hid (Below w.heap.size w wc))
        case first =>
          go_region_held3 (fun w' => w'.cell? ⟨w.heap.size, 0, none⟩ = some (.int .i64 a) ∧ w'.cell? ⟨w.heap.size, 1, none⟩ = some (.int .i64 b) ∧ w'.cell? ⟨w.heap.size, 2, none⟩ = some (.int .i64 d) ∧
              w'.cell? ⟨w.heap.size + 1, 0, none⟩ = some (.int .i64 X) ∧ w'.cell? ⟨w.heap.size + 1, 1, none⟩ = some (.int .i64 Y) ∧ w'.cell? ⟨w.heap.size + 1 + 1, 0, none⟩ = some (.int .i64 X') ∧ w'.cell? ⟨w.heap.size + 1 + 1, 1, none⟩ = some (.int .i64 Y')) (go_simp)
            (first
              | (go_at_call 14; refine (quad_f a b d _ _ HA.out HB.out HD.out (by first | with_reducible exact IX.out | with_reducible exact IX'.out) (by first | with_reducible exact IY.out | with_reducible exact IY'.out) _).mono ?_; first | (rw [← Q1.out]; rintro e w1 ⟨rfl, hb⟩; have z_w1 := hb.size; (try simp at z_w1); obtain ⟨y_w1_0_0, c_w1_0_0, f_w1_0_0, r_w1_0_0, t_w1_0_0, p_w1_0_0⟩ := bk hb (w.heap.size) (by first | omega | (simp; done) | (simp; omega) | fail); obtain ⟨y_w1_0_1, c_w1_0_1, f_w1_0_1, r_w1_0_1, t_w1_0_1, p_w1_0_1⟩ := bk hb (w.heap.size + 1) (by first | omega | (simp; done) | (simp; omega) | fail); obtain ⟨y_w1_0_2, c_w1_0_2, f_w1_0_2, r_w1_0_2, t_w1_0_2, p_w1_0_2⟩ := bk hb (w.heap.size + 1 + 1) (by first | omega | (simp; done) | (simp; omega) | fail); obtain ⟨y_w1_k, c_w1_k, f_w1_k, r_w1_k, t_w1_k, p_w1_k⟩ := bk hb (k) (by first | omega | (simp; done) | (simp; omega) | fail); (try (refine with_imp (bk hb (wc.heap.size)) ?_ ?_; (focus (first | omega | (simp; done) | (simp; omega))); rintro ⟨y_w1_q2, c_w1_q2, f_w1_q2, r_w1_q2, t_w1_q2, p_w1_q2⟩; have ngk_w1_q2 : ¬ (k = wc.heap.size) := (by omega); have n0_w1_q2 : ¬ (w.heap.size = wc.heap.size) := (by omega); have n1_w1_q2 : ¬ (w.heap.size + 1 = wc.heap.size) := (by omega); have n2_w1_q2 : ¬ (w.heap.size + 1 + 1 = wc.heap.size) := (by omega)))) | (rw [← Q2.out]; rintro e w2 ⟨rfl, hb⟩; have z_w2 := hb.size; (try simp at z_w2); obtain ⟨y_w2_0_0, c_w2_0_0, f_w2_0_0, r_w2_0_0, t_w2_0_0, p_w2_0_0⟩ := bk hb (w.heap.size) (by first | omega | (simp; done) | (simp; omega) | fail); obtain ⟨y_w2_0_1, c_w2_0_1, f_w2_0_1, r_w2_0_1, t_w2_0_1, p_w2_0_1⟩ := bk hb (w.heap.size + 1) (by first | omega | (simp; done) | (simp; omega) | fail); obtain ⟨y_w2_0_2, c_w2_0_2, f_w2_0_2, r_w2_0_2, t_w2_0_2, p_w2_0_2⟩ := bk hb (w.heap.size + 1 + 1) (by first | omega | (simp; done) | (simp; omega) | fail); obtain ⟨y_w2_k, c_w2_k, f_w2_k, r_w2_k, t_w2_k, p_w2_k⟩ := bk hb (k) (by first | omega | (simp; done) | (simp; omega) | fail); (try (refine with_imp (bk hb (wc.heap.size)) ?_ ?_; (focus (first | omega | (simp; done) | (simp; omega))); rintro ⟨y_w2_q2, c_w2_q2, f_w2_q2, r_w2_q2, t_w2_q2, p_w2_q2⟩; have ngk_w2_q2 : ¬ (k = wc.heap.size) := (by omega); have n0_w2_q2 : ¬ (w.heap.size = wc.heap.size) := (by omega); have n1_w2_q2 : ¬ (w.heap.size + 1 = wc.heap.size) := (by omega); have n2_w2_q2 : ¬ (w.heap.size + 1 + 1 = wc.heap.size) := (by omega))); (try (refine with_imp (bk hb (w1.heap.size)) ?_ ?_; (focus (first | omega | (simp; done) | (simp; omega))); rintro ⟨y_w2_q3, c_w2_q3, f_w2_q3, r_w2_q3, t_w2_q3, p_w2_q3⟩; have ngk_w2_q3 : ¬ (k = w1.heap.size) := (by omega); have n0_w2_q3 : ¬ (w.heap.size = w1.heap.size) := (by omega); have n1_w2_q3 : ¬ (w.heap.size + 1 = w1.heap.size) := (by omega); have n2_w2_q3 : ¬ (w.heap.size + 1 + 1 = w1.heap.size) := (by omega)))))
              | (go_at_call 13; refine (add_I _ _ _).mono ?_; rintro e w3 ⟨rfl, hb3⟩; have z_w3 := hb3.size; (try simp at z_w3); obtain ⟨y_w3_0_0, c_w3_0_0, f_w3_0_0, r_w3_0_0, t_w3_0_0, p_w3_0_0⟩ := bk hb3 (w.heap.size) (by first | omega | (simp; done) | (simp; omega) | fail); obtain ⟨y_w3_0_1, c_w3_0_1, f_w3_0_1, r_w3_0_1, t_w3_0_1, p_w3_0_1⟩ := bk hb3 (w.heap.size + 1) (by first | omega | (simp; done) | (simp; omega) | fail); obtain ⟨y_w3_0_2, c_w3_0_2, f_w3_0_2, r_w3_0_2, t_w3_0_2, p_w3_0_2⟩ := bk hb3 (w.heap.size + 1 + 1) (by first | omega | (simp; done) | (simp; omega) | fail); obtain ⟨y_w3_k, c_w3_k, f_w3_k, r_w3_k, t_w3_k, p_w3_k⟩ := bk hb3 (k) (by first | omega | (simp; done) | (simp; omega) | fail); (try (refine with_imp (bk hb3 (wc.heap.size)) ?_ ?_; (focus (first | omega | (simp; done) | (simp; omega))); rintro ⟨y_w3_q2, c_w3_q2, f_w3_q2, r_w3_q2, t_w3_q2, p_w3_q2⟩; have ngk_w3_q2 : ¬ (k = wc.heap.size) := (by omega); have n0_w3_q2 : ¬ (w.heap.size = wc.heap.size) := (by omega); have n1_w3_q2 : ¬ (w.heap.size + 1 = wc.heap.size) := (by omega); have n2_w3_q2 : ¬ (w.heap.size + 1 + 1 = wc.heap.size) := (by omega))); (try (refine with_imp (bk hb3 (w1.heap.size)) ?_ ?_; (focus (first | omega | (simp; done) | (simp; omega))); rintro ⟨y_w3_q3, c_w3_q3, f_w3_q3, r_w3_q3, t_w3_q3, p_w3_q3⟩; have ngk_w3_q3 : ¬ (k = w1.heap.size) := (by omega); have n0_w3_q3 : ¬ (w.heap.size = w1.heap.size) := (by omega); have n1_w3_q3 : ¬ (w.heap.size + 1 = w1.heap.size) := (by omega); have n2_w3_q3 : ¬ (w.heap.size + 1 + 1 = w1.heap.size) := (by omega))); (try (refine with_imp (bk hb3 (w2.heap.size)) ?_ ?_; (focus (first | omega | (simp; done) | (simp; omega))); rintro ⟨y_w3_q4, c_w3_q4, f_w3_q4, r_w3_q4, t_w3_q4, p_w3_q4⟩; have ngk_w3_q4 : ¬ (k = w2.heap.size) := (by omega); have n0_w3_q4 : ¬ (w.heap.size = w2.heap.size) := (by omega); have n1_w3_q4 : ¬ (w.heap.size + 1 = w2.heap.size) := (by omega); have n2_w3_q4 : ¬ (w.heap.size + 1 + 1 = w2.heap.size) := (by omega)))))
          all_goals go_wp2_with fail
          all_goals go_meet
          all_goals exact ⟨_, rfl, (by first | omega | (simp; done) | (simp; omega) | fail), (by go_simp), (by first | omega | (simp; done) | (simp; omega) | fail), (by go_simp), (by first | omega | (simp; done) | (simp; omega) | fail), (by repeat (first | exact Below.refl _ _ | exact Below_of_hid (by assumption) | refine Below.drew ?_ | refine below_drewN ?_ _ | refine Below_putRow ?_ (by first | omega | (simp; done) | (simp; omega) | fail) _ _ | refine Below.alloc ?_ (by first | omega | (simp; done) | (simp; omega) | fail) _ | refine Below.setCell ?_ (by first | omega | (simp; done) | (simp; omega) | fail) _ | refine Below.trans ?_ (Below.mono (by assumption) (by first | omega | (simp; done) | (simp; omega) | fail))))⟩
        case rest =>
          clear c0 c1 c2 c3 c4 c5 c6 HBL y0 y1 y2
          obtain ⟨l, rfl, hl1, hlr, hk2, hkr2, hz2, HBL⟩ := hcut
          have y0 : w.heap.size < wc.heap.size := by omega
          go_wp2_with fail
          go_region_held3 (fun w' => w'.row? k 0 18 = some ((WI.of q3).add (WI.of q4)).cells ∧ w'.row? l 0 18 = some ((WI.of q1).add (WI.of q2)).cells) (go_simp)
            (first
              | (go_at_call 15; refine (text_I _ _).mono ?_; rintro e w1 ⟨rfl, hb1⟩; have z_w1 := hb1.size; (try simp at z_w1); obtain ⟨y_w1_0_0, c_w1_0_0, f_w1_0_0, r_w1_0_0, t_w1_0_0, p_w1_0_0⟩ := bk hb1 (w.heap.size) (by first | omega | (simp; done) | (simp; omega) | fail); obtain ⟨y_w1_k, c_w1_k, f_w1_k, r_w1_k, t_w1_k, p_w1_k⟩ := bk hb1 (k) (by first | omega | (simp; done) | (simp; omega) | fail); obtain ⟨y_w1_l, c_w1_l, f_w1_l, r_w1_l, t_w1_l, p_w1_l⟩ := bk hb1 (l) (by first | omega | (simp; done) | (simp; omega) | fail))
              | (go_at_call 13; refine (add_I _ _ _).mono ?_; rintro e w2 ⟨rfl, hb2⟩; rw [E.out]; have z_w2 := hb2.size; (try simp at z_w2); obtain ⟨y_w2_0_0, c_w2_0_0, f_w2_0_0, r_w2_0_0, t_w2_0_0, p_w2_0_0⟩ := bk hb2 (w.heap.size) (by first | omega | (simp; done) | (simp; omega) | fail); obtain ⟨y_w2_k, c_w2_k, f_w2_k, r_w2_k, t_w2_k, p_w2_k⟩ := bk hb2 (k) (by first | omega | (simp; done) | (simp; omega) | fail); obtain ⟨y_w2_l, c_w2_l, f_w2_l, r_w2_l, t_w2_l, p_w2_l⟩ := bk hb2 (l) (by first | omega | (simp; done) | (simp; omega) | fail))
              | (go_at_call 11; refine (awake_c _).mono ?_; rintro e w3 ⟨rfl, hb3⟩; have z_w3 := hb3.size; (try simp at z_w3); obtain ⟨y_w3_0_0, c_w3_0_0, f_w3_0_0, r_w3_0_0, t_w3_0_0, p_w3_0_0⟩ := bk hb3 (w.heap.size) (by first | omega | (simp; done) | (simp; omega) | fail); obtain ⟨y_w3_k, c_w3_k, f_w3_k, r_w3_k, t_w3_k, p_w3_k⟩ := bk hb3 (k) (by first | omega | (simp; done) | (simp; omega) | fail); obtain ⟨y_w3_l, c_w3_l, f_w3_l, r_w3_l, t_w3_l, p_w3_l⟩ := bk hb3 (l) (by first | omega | (simp; done) | (simp; omega) | fail)))
          all_goals go_wp2
          all_goals go_ret
          all_goals exact ⟨rfl, (by repeat (first | exact Below.refl _ _ | exact Below_of_hid (by assumption) | refine Below.drew ?_ | refine below_drewN ?_ _ | refine Below_putRow ?_ (by first | omega | (simp; done) | (simp; omega) | fail) _ _ | refine Below.alloc ?_ (by first | omega | (simp; done) | (simp; omega) | fail) _ | refine Below.setCell ?_ (by first | omega | (simp; done) | (simp; omega) | fail) _ | refine Below.trans ?_ (Below.mono (by assumption) (by first | omega | (simp; done) | (simp; omega) | fail))))⟩
end Go.Proofs.Ytcmgcndgdfblcaa
