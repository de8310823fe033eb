/- The walks of package root. -/
import Derived.Test.YtfohihjeemmedaaW18
import Derived.Deep.Cut
import Derived.Test.YtfohihjeemmedaaWk
namespace Go.Proofs.Ytfohihjeemmedaa
open Go.RowKit

/-- A quotient that fits. -/
def narrowV (x : WI) (e : Int) : Int × Int := if e ≠ 0 then (0, e) else if x.i64.2 then (x.i64.1, 0) else (0, 2)
/-- A quotient, up. -/
def aboveV (x y : WI) : WI × Int := ((x.neg.div y).1.neg, (x.neg.div y).2)
def wdownV (x : WI) : Int × Int := narrowV x.sqrt.1 x.sqrt.2
def wupV (x : WI) : Int × Int := narrowV (if x.sqrt.2 = 0 ∧ ((x.sqrt.1.mul x.sqrt.1).cmp x).1 < 0 then x.sqrt.1.add (WI.of 1) else x.sqrt.1) x.sqrt.2
def mulDivV (a b c : Int) : Int × Int := narrowV (((WI.of a).mul (WI.of b)).div (WI.of c)).1 (((WI.of a).mul (WI.of b)).div (WI.of c)).2
def mulDivUpV (a b c : Int) : Int × Int := narrowV (aboveV ((WI.of a).mul (WI.of b)) (WI.of c)).1 (aboveV ((WI.of a).mul (WI.of b)) (WI.of c)).2
def fitV (x y : WI) : Int := if x.ov = true ∨ y.ov = true then 2 else if y.sign ≤ 0 then 1 else 0
def floorV (x y : WI) : Int × Int := if fitV x y ≠ 0 then (0, fitV x y) else narrowV (x.div y).1 (x.div y).2
def ceilV (x y : WI) : Int × Int := if fitV x y ≠ 0 then (0, fitV x y) else narrowV (aboveV x y).1 (aboveV x y).2
def nearV (x y : WI) : Int × Int := if fitV x y ≠ 0 then (0, fitV x y) else floorV ((x.add x).add y) (y.add y)

set_option maxHeartbeats 1000000 in
theorem narrow_c (x : WI) (e : Int) (w : World) :
    Calls Try.prog 75 #[.agg x.cells, .int .i64 e] w fun r w' => r = .returned (.tuple #[.int .i64 (narrowV x e).1, .int .i64 (narrowV x e).2]) ∧ Below w.heap.size w w' := by
  have E : Hid (narrowV x e = if e ≠ 0 then (0, e) else if x.i64.2 then (x.i64.1, 0) else (0, 2)) := rfl
  by_cases he : e = 0
  · subst he
    cases hi : x.i64.2 with
    | true =>
      go_enter Try.func75, Try.ntmps75
      go_wp2_with fail
      refine (int64_I _ _).mono ?_; rintro e w1 ⟨rfl, hb1⟩; rw [hi]; have z_w1 := hb1.size; (try simp at z_w1); obtain ⟨y_w1_0_0, c_w1_0_0, f_w1_0_0, r_w1_0_0, t_w1_0_0, p_w1_0_0⟩ := bk hb1 (w.heap.size) (by first | omega | (simp; done) | (simp; omega) | fail)
      go_wp2_with fail
      go_ret2
      exact ⟨by rw [E.out, hi]; rfl, (by repeat (first | exact Below.refl _ _ | exact Below_of_hid (by assumption) | refine Below.drew ?_ | refine below_drewN ?_ _ | refine Below_putRow ?_ (by first | omega | (simp; done) | (simp; omega) | fail) _ _ | refine Below.alloc ?_ (by first | omega | (simp; done) | (simp; omega) | fail) _ | refine Below.setCell ?_ (by first | omega | (simp; done) | (simp; omega) | fail) _ | refine Below.trans ?_ (Below.mono (by assumption) (by first | omega | (simp; done) | (simp; omega) | fail))))⟩
    | false =>
      go_enter Try.func75, Try.ntmps75
      go_wp2_with fail
      refine (int64_I _ _).mono ?_; rintro e w1 ⟨rfl, hb1⟩; rw [hi]; have z_w1 := hb1.size; (try simp at z_w1); obtain ⟨y_w1_0_0, c_w1_0_0, f_w1_0_0, r_w1_0_0, t_w1_0_0, p_w1_0_0⟩ := bk hb1 (w.heap.size) (by first | omega | (simp; done) | (simp; omega) | fail)
      go_wp2_with fail
      go_ret2
      exact ⟨by rw [E.out, hi]; rfl, (by repeat (first | exact Below.refl _ _ | exact Below_of_hid (by assumption) | refine Below.drew ?_ | refine below_drewN ?_ _ | refine Below_putRow ?_ (by first | omega | (simp; done) | (simp; omega) | fail) _ _ | refine Below.alloc ?_ (by first | omega | (simp; done) | (simp; omega) | fail) _ | refine Below.setCell ?_ (by first | omega | (simp; done) | (simp; omega) | fail) _ | refine Below.trans ?_ (Below.mono (by assumption) (by first | omega | (simp; done) | (simp; omega) | fail))))⟩
  · have HE := Lib.hid he
    have h2 : (e != 0) = true := by simp [he]
    go_enter Try.func75, Try.ntmps75
    go_wp2_with fail
    go_ret2
    exact ⟨by rw [E.out, if_pos HE.out]; rfl, (by repeat (first | exact Below.refl _ _ | exact Below_of_hid (by assumption) | refine Below.drew ?_ | refine below_drewN ?_ _ | refine Below_putRow ?_ (by first | omega | (simp; done) | (simp; omega) | fail) _ _ | refine Below.alloc ?_ (by first | omega | (simp; done) | (simp; omega) | fail) _ | refine Below.setCell ?_ (by first | omega | (simp; done) | (simp; omega) | fail) _ | refine Below.trans ?_ (Below.mono (by assumption) (by first | omega | (simp; done) | (simp; omega) | fail))))⟩

set_option maxRecDepth 100000 in
set_option maxHeartbeats 1000000 in
theorem above_c (x y : WI) (w : World) :
    Calls Try.prog 90 #[.agg x.cells, .agg y.cells] w fun r w' => r = .returned (.tuple #[.agg (aboveV x y).1.cells, .int .i64 (aboveV x y).2]) ∧ Below w.heap.size w w' := by
  go_enter Try.func90, Try.ntmps90
  go_wp2_with fail
  go_cut [6, 7] from 8 (fun s6 s7 wc => ∃ g, s6 = .pointer (some ⟨g, 0, none⟩) ∧ s7 = .int .i64 (x.neg.div y).2 ∧ w.heap.size + 1 + 1 + 1 ≤ g ∧ g < wc.heap.size ∧ wc.row? g 0 18 = some (x.neg.div y).1.cells ∧ wc.fits (w.heap.size + 1 + 1) 18 = true ∧ Hid (Below w.heap.size w wc))
  case first =>
    go_region_held3 (fun w' => w'.row? w.heap.size 0 18 = some x.cells ∧ w'.row? (w.heap.size + 1) 0 18 = some y.cells) (go_simp)
      (first
        | (go_at_call 69; refine (neg_I _ _).mono ?_; rintro e w1 ⟨rfl, hb1⟩; have z_w1 := hb1.size; (try simp at z_w1); obtain ⟨y_w1_0_0, c_w1_0_0, f_w1_0_0, r_w1_0_0, t_w1_0_0, p_w1_0_0⟩ := bk hb1 (w.heap.size) (by first | omega | (simp; done) | (simp; omega) | fail); obtain ⟨y_w1_0_1, c_w1_0_1, f_w1_0_1, r_w1_0_1, t_w1_0_1, p_w1_0_1⟩ := bk hb1 (w.heap.size + 1) (by first | omega | (simp; done) | (simp; omega) | fail); obtain ⟨y_w1_0_2, c_w1_0_2, f_w1_0_2, r_w1_0_2, t_w1_0_2, p_w1_0_2⟩ := bk hb1 (w.heap.size + 1 + 1) (by first | omega | (simp; done) | (simp; omega) | fail); (try (refine with_imp (bk hb1 (w.heap.size + 1 + 1 + 1)) ?_ ?_; (focus (first | omega | (simp; done) | (simp; omega))); rintro ⟨y_w1_q1, c_w1_q1, f_w1_q1, r_w1_q1, t_w1_q1, p_w1_q1⟩)))
        | (go_at_call 91; refine (div_I _ _ _).mono ?_; rintro e w2 ⟨rfl, hb2⟩; have z_w2 := hb2.size; (try simp at z_w2); obtain ⟨y_w2_0_0, c_w2_0_0, f_w2_0_0, r_w2_0_0, t_w2_0_0, p_w2_0_0⟩ := bk hb2 (w.heap.size) (by first | omega | (simp; done) | (simp; omega) | fail); obtain ⟨y_w2_0_1, c_w2_0_1, f_w2_0_1, r_w2_0_1, t_w2_0_1, p_w2_0_1⟩ := bk hb2 (w.heap.size + 1) (by first | omega | (simp; done) | (simp; omega) | fail); obtain ⟨y_w2_0_2, c_w2_0_2, f_w2_0_2, r_w2_0_2, t_w2_0_2, p_w2_0_2⟩ := bk hb2 (w.heap.size + 1 + 1) (by first | omega | (simp; done) | (simp; omega) | fail); (try (refine with_imp (bk hb2 (w.heap.size + 1 + 1 + 1)) ?_ ?_; (focus (first | omega | (simp; done) | (simp; omega))); rintro ⟨y_w2_q1, c_w2_q1, f_w2_q1, r_w2_q1, t_w2_q1, p_w2_q1⟩)); (try (refine with_imp (bk hb2 (w1.heap.size)) ?_ ?_; (focus (first | omega | (simp; done) | (simp; omega))); rintro ⟨y_w2_q2, c_w2_q2, f_w2_q2, r_w2_q2, t_w2_q2, p_w2_q2⟩; have n0_w2_q2 : ¬ (w.heap.size = w1.heap.size) := (by omega); have n1_w2_q2 : ¬ (w.heap.size + 1 = w1.heap.size) := (by omega); have n2_w2_q2 : ¬ (w.heap.size + 1 + 1 = w1.heap.size) := (by omega)))))
    all_goals go_wp2_with fail
    all_goals go_meet
    all_goals exact ⟨_, rfl, rfl, (by first | omega | (simp; done) | (simp; omega) | fail), (by first | omega | (simp; done) | (simp; omega) | fail), (by go_simp), (by go_simp), (by repeat (first | exact Below.refl _ _ | exact Below_of_hid (by assumption) | refine Below.drew ?_ | refine below_drewN ?_ _ | refine Below_putRow ?_ (by first | omega | (simp; done) | (simp; omega) | fail) _ _ | refine Below.alloc ?_ (by first | omega | (simp; done) | (simp; omega) | fail) _ | refine Below.setCell ?_ (by first | omega | (simp; done) | (simp; omega) | fail) _ | refine Below.trans ?_ (Below.mono (by assumption) (by first | omega | (simp; done) | (simp; omega) | fail))))⟩
  case rest =>
    obtain ⟨g, rfl, rfl, hg1, hg2, hgr, hf, HBL⟩ := hcut
    have y2 : w.heap.size + 1 + 1 < wc.heap.size := by omega
    have E : Hid (((x.neg.div y).1.neg, (x.neg.div y).2) = aboveV x y) := rfl
    go_wp2_with fail
    refine (neg_I _ _).mono ?_; rintro e w3 ⟨rfl, hb3⟩
    have t3 : w3.fits (w.heap.size + 1 + 1) 18 = true := by rw [Below.fits hb3 _ _ y2]; exact hf
    have p3 : w3.put? (w.heap.size + 1 + 1) 0 (x.neg.div y).1.neg.cells = some (w3.putRow (w.heap.size + 1 + 1) 0 (x.neg.div y).1.neg.cells) := put?_fits (by simpa using t3) (by simp)
    have r3 := row_put p3 (n := 18) (by simp)
    go_wp2_with fail
    exact bodyPost_row_t 18 (x.neg.div y).1.neg.cells (.int .i64 (x.neg.div y).2) rfl rfl rfl rfl Try.underlying68 rfl info_Int r3 ⟨by rw [← E.out], (by repeat (first | exact Below.refl _ _ | exact Below_of_hid (by assumption) | refine Below.drew ?_ | refine below_drewN ?_ _ | refine Below_putRow ?_ (by first | omega | (simp; done) | (simp; omega) | fail) _ _ | refine Below.alloc ?_ (by first | omega | (simp; done) | (simp; omega) | fail) _ | refine Below.setCell ?_ (by first | omega | (simp; done) | (simp; omega) | fail) _ | refine Below.trans ?_ (Below.mono (by assumption) (by first | omega | (simp; done) | (simp; omega) | fail))))⟩

set_option maxHeartbeats 1000000 in
theorem wdown_c (x : WI) (w : World) :
    Calls Try.prog 64 #[.agg x.cells] w fun r w' => r = .returned (.tuple #[.int .i64 (wdownV x).1, .int .i64 (wdownV x).2]) ∧ Below w.heap.size w w' := by
  have E : Hid (wdownV x = narrowV x.sqrt.1 x.sqrt.2) := rfl
  go_enter Try.func64, Try.ntmps64
  go_wp2_with fail
  refine (sqrt_I _ _).mono ?_; rintro e w1 ⟨rfl, hb1⟩; have z_w1 := hb1.size; (try simp at z_w1); obtain ⟨y_w1_0_0, c_w1_0_0, f_w1_0_0, r_w1_0_0, t_w1_0_0, p_w1_0_0⟩ := bk hb1 (w.heap.size) (by first | omega | (simp; done) | (simp; omega) | fail)
  go_wp2_with fail
  refine (narrow_c _ _ _).mono ?_; rintro e w2 ⟨rfl, hb2⟩; have z_w2 := hb2.size; (try simp at z_w2); obtain ⟨y_w2_0_0, c_w2_0_0, f_w2_0_0, r_w2_0_0, t_w2_0_0, p_w2_0_0⟩ := bk hb2 (w.heap.size) (by first | omega | (simp; done) | (simp; omega) | fail)
  go_wp2_with fail
  go_ret2
  exact ⟨by rw [E.out]; rfl, (by repeat (first | exact Below.refl _ _ | exact Below_of_hid (by assumption) | refine Below.drew ?_ | refine below_drewN ?_ _ | refine Below_putRow ?_ (by first | omega | (simp; done) | (simp; omega) | fail) _ _ | refine Below.alloc ?_ (by first | omega | (simp; done) | (simp; omega) | fail) _ | refine Below.setCell ?_ (by first | omega | (simp; done) | (simp; omega) | fail) _ | refine Below.trans ?_ (Below.mono (by assumption) (by first | omega | (simp; done) | (simp; omega) | fail))))⟩

end Go.Proofs.Ytfohihjeemmedaa
