/- The walks of package mat: Least, Holds. -/
import Derived.Test.YtfohihjeemmedaaM4
namespace Go.Proofs.Ytfohihjeemmedaa
open Go.RowKit

/-- mat.Least. -/
def leastB (a b d a' b' d' : Int) : Bool := mayB a b d && mayB a' b' d' && psdB (a - a') (b - b') (d - d')
theorem less_eq (n x y : Int) (hn : I64 n) (hx : I64 x) (hy : I64 y) : (WI.of n).sub (WI.of (x * y)) = WI.of (n - x * y) :=
  WI.of_sub ((Sm.of64 hn.1 hn.2).lim (by decide)) (((Sm.of64 hx.1 hx.2).mul (Sm.of64 hy.1 hy.2)).lim (by decide))
theorem less_sm (n x y : Int) (hn : I64 n) (hx : I64 x) (hy : I64 y) : Sm 127 (n - x * y) :=
  Sm.sub ((Sm.of64 hn.1 hn.2).mono (by decide)) ((Sm.of64 hx.1 hx.2).mul (Sm.of64 hy.1 hy.2))
set_option maxHeartbeats 1000000 in
theorem less_c (n x y : Int) (hn : I64 n) (hx : I64 x) (hy : I64 y) (w : World) :
    Calls Try.prog 52 #[.int .i64 n, .int .i64 x, .int .i64 y] w fun e w' => e = .returned (.agg (WI.of (n - x * y)).cells) ∧ Below w.heap.size w w' := by
  have E := Lib.hid (less_eq n x y hn hx hy)
  have HN := Lib.hid hn
  have HX := Lib.hid hx
  have HY := Lib.hid hy
  clear hn hx hy
  go_enter Try.func52, Try.ntmps52
  go_wp2_with fail
  refine (of_c _ HN.out.1 HN.out.2 _).mono ?_; rintro e w1 ⟨rfl, hb1⟩; have z_w1 := hb1.size; (try simp at z_w1); obtain ⟨y_w1_0_0, c_w1_0_0, f_w1_0_0, r_w1_0_0, t_w1_0_0, p_w1_0_0⟩ := bk hb1 (w.heap.size) (by first | omega | (simp; done) | (simp; omega) | fail)
  go_wp2_with fail
  refine (times_c _ _ HX.out HY.out _).mono ?_; rintro e w2 ⟨rfl, hb2⟩; have z_w2 := hb2.size; (try simp at z_w2); obtain ⟨y_w2_0_0, c_w2_0_0, f_w2_0_0, r_w2_0_0, t_w2_0_0, p_w2_0_0⟩ := bk hb2 (w.heap.size) (by first | omega | (simp; done) | (simp; omega) | fail)
  go_wp2_with fail
  refine (sub_I _ _ _).mono ?_; rintro e w3 ⟨rfl, hb3⟩; have z_w3 := hb3.size; (try simp at z_w3); obtain ⟨y_w3_0_0, c_w3_0_0, f_w3_0_0, r_w3_0_0, t_w3_0_0, p_w3_0_0⟩ := bk hb3 (w.heap.size) (by first | omega | (simp; done) | (simp; omega) | fail)
  go_wp2
  exact bodyPost_row 18 ((WI.of n).sub (WI.of (x * y))).cells rfl rfl rfl Try.underlying68 rfl info_Int (by go_simp) ⟨by rw [E.out], (by repeat (first | exact Below.refl _ _ | exact Below_of_hid (by assumption) | refine Below.drew ?_ | refine below_drewN ?_ _ | refine Below_putRow ?_ (by first | omega | (simp; done) | (simp; omega) | fail) _ _ | refine Below.alloc ?_ (by first | omega | (simp; done) | (simp; omega) | fail) _ | refine Below.setCell ?_ (by first | omega | (simp; done) | (simp; omega) | fail) _ | refine Below.trans ?_ (Below.mono (by assumption) (by first | omega | (simp; done) | (simp; omega) | fail))))⟩

/-- mat.Holds. -/
def holdsB (a b d x y : Int) : Bool := psdB (a - x * x) (b - x * y) (d - y * y)
set_option maxRecDepth 100000 in
set_option maxHeartbeats 2000000 in
theorem holds_c (a b d x y : Int) (ha : I64 a) (hb : I64 b) (hd : I64 d) (hx : I64 x) (hy : I64 y) (w : World) :
    Calls Try.prog 35 #[symV a b d, ptV x y] w fun e w' => e = .returned (.bool (holdsB a b d x y)) ∧ Below w.heap.size w w' := by
  have E : Hid (psdW (WI.of (a - x * x)) (WI.of (b - x * y)) (WI.of (d - y * y)) = holdsB a b d x y) := psdW_of _ _ _ (less_sm _ _ _ ha hx hx) (less_sm _ _ _ hb hx hy) (less_sm _ _ _ hd hy hy)
  have HA := Lib.hid ha
  have HB := Lib.hid hb
  have HD := Lib.hid hd
  have HX := Lib.hid hx
  have HY := Lib.hid hy
  clear ha hb hd hx hy
  go_enter Try.func35, Try.ntmps35
  go_wp2_with fail
  go_region_held3 (fun w' => w'.cell? ⟨w.heap.size, 0, none⟩ = some (.int .i64 a) ∧ w'.cell? ⟨w.heap.size, 1, none⟩ = some (.int .i64 b) ∧ w'.cell? ⟨w.heap.size, 2, none⟩ = some (.int .i64 d) ∧
      w'.cell? ⟨w.heap.size + 1, 0, none⟩ = some (.int .i64 x) ∧ w'.cell? ⟨w.heap.size + 1, 1, none⟩ = some (.int .i64 y)) (go_simp)
    (first
      | (go_at_call 52; refine (less_c _ _ _ (by first | exact HA.out | exact HB.out | exact HD.out) (by first | exact HX.out | exact HY.out) (by first | exact HX.out | exact HY.out) _).mono ?_; rintro e w1 ⟨rfl, hb1⟩; have z_w1 := hb1.size; (try simp at z_w1); obtain ⟨y_w1_0_0, c_w1_0_0, f_w1_0_0, r_w1_0_0, t_w1_0_0, p_w1_0_0⟩ := bk hb1 (w.heap.size) (by first | omega | (simp; done) | (simp; omega) | fail); obtain ⟨y_w1_0_1, c_w1_0_1, f_w1_0_1, r_w1_0_1, t_w1_0_1, p_w1_0_1⟩ := bk hb1 (w.heap.size + 1) (by first | omega | (simp; done) | (simp; omega) | fail))
      | (go_at_call 55; refine (psd_c _ _ _ _).mono ?_; rintro e w2 ⟨rfl, hb2⟩; have z_w2 := hb2.size; (try simp at z_w2); obtain ⟨y_w2_0_0, c_w2_0_0, f_w2_0_0, r_w2_0_0, t_w2_0_0, p_w2_0_0⟩ := bk hb2 (w.heap.size) (by first | omega | (simp; done) | (simp; omega) | fail); obtain ⟨y_w2_0_1, c_w2_0_1, f_w2_0_1, r_w2_0_1, t_w2_0_1, p_w2_0_1⟩ := bk hb2 (w.heap.size + 1) (by first | omega | (simp; done) | (simp; omega) | fail)))
  go_wp2
  go_ret
  exact ⟨by rw [← E.out]; rfl, (by repeat (first | exact Below.refl _ _ | exact Below_of_hid (by assumption) | refine Below.drew ?_ | refine below_drewN ?_ _ | refine Below_putRow ?_ (by first | omega | (simp; done) | (simp; omega) | fail) _ _ | refine Below.alloc ?_ (by first | omega | (simp; done) | (simp; omega) | fail) _ | refine Below.setCell ?_ (by first | omega | (simp; done) | (simp; omega) | fail) _ | refine Below.trans ?_ (Below.mono (by assumption) (by first | omega | (simp; done) | (simp; omega) | fail))))⟩
end Go.Proofs.Ytfohihjeemmedaa
