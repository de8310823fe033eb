/- The walk of grow.Sum. -/
import Derived.Test.YtfohihjeemmedaaE2
import Derived.Deep.RegionWith
namespace Go.Proofs.Ytfohihjeemmedaa
open Go.RowKit

theorem setCell_self {w : World} {b : Nat} {v : Value} {t : TypeId} {fr : Nat × Nat} (h : w.heap[b]? = some (.cells #[v] t fr)) : w.setCell ⟨b, 0, none⟩ v = w := by
  have hh : (w.setCell ⟨b, 0, none⟩ v).heap = w.heap := by
    apply Array.ext_getElem?; intro k
    by_cases hk : k = b
    · subst hk; simp [World.setCell, Array.getElem?_modify, h]
    · exact heap_setCell_other _ _ _ _ hk
  cases w; simp only [World.setCell] at hh ⊢; rw [hh]

theorem cdiv_range (r a s : Int) (hs : 0 < s) (hr : 0 ≤ r) (h1 : 0 ≤ a) (h2 : a ≤ s * s) : 0 ≤ cdiv (r * a) s ∧ cdiv (r * a) s ≤ r * s := by
  have h := cdiv_spec (r * a) s hs
  have k1 := Int.mul_nonneg hr h1
  have k2 := Int.mul_le_mul_of_nonneg_left h2 hr
  have k3 : r * (s * s) = s * (r * s) := by grind
  constructor
  · exact Int.le_of_mul_le_mul_left (a := s) (by omega) hs
  · have k4 : s * (cdiv (r * a) s) < s * (r * s + 1) := by
      have : s * (r * s + 1) = s * (r * s) + s := by grind
      omega
    have := Int.lt_of_mul_lt_mul_left k4 (by omega)
    omega
theorem fdiv_range (r b s : Int) (hs : 0 < s) (hr : 0 ≤ r) (h1 : -(s * s) ≤ b) (h2 : b ≤ s * s) : -(r * s) ≤ (r * b).fdiv s ∧ (r * b).fdiv s ≤ r * s := by
  have h := floor_spec (r * b) s hs
  have k1 := Int.mul_le_mul_of_nonneg_left h1 hr
  have k2 := Int.mul_le_mul_of_nonneg_left h2 hr
  have k3 : r * (s * s) = s * (r * s) := by grind
  have k3' : r * (-(s * s)) = s * (-(r * s)) := by grind
  constructor
  · have k4 : s * (-(r * s)) < s * ((r * b).fdiv s + 1) := by
      have : s * ((r * b).fdiv s + 1) = s * (r * b).fdiv s + s := by grind
      omega
    have := Int.lt_of_mul_lt_mul_left k4 (by omega)
    omega
  · exact Int.le_of_mul_le_mul_left (a := s) (by omega) hs
theorem El.b_sq (e : El) (h : e.may = true) : -(e.rad * e.rad) ≤ e.b ∧ e.b ≤ e.rad * e.rad := by
  have h1 := (El.may_iff e).1 h
  have h2 := e.rad_sq h
  have h3 : e.a * e.d ≤ (e.rad * e.rad) * (e.rad * e.rad) := Int.mul_le_mul (by omega) (by omega) (by omega) (by have := int_sq_nonneg e.rad; omega)
  exact sq_bound (by have := int_sq_nonneg e.rad; omega) (by omega)
/-- What the parts of a sum come to. -/
structure Parts (s t a b : Int) (q p : Int) : Prop where
  up1 : mulDivUpV (s + t) a s = (q, 0)
  up2 : mulDivUpV (s + t) b t = (p, 0)
  b1 : -300000000000000 ≤ q ∧ q ≤ 300000000000000
  b2 : -300000000000000 ≤ p ∧ p ≤ 300000000000000
structure PartsD (s t a b : Int) (q p : Int) : Prop where
  up1 : mulDivV (s + t) a s = (q, 0)
  up2 : mulDivV (s + t) b t = (p, 0)
  b1 : -300000000000000 ≤ q ∧ q ≤ 300000000000000
  b2 : -300000000000000 ≤ p ∧ p ≤ 300000000000000
theorem rs_le {s t : Int} (h1 : 0 < s) (h2 : s ≤ 11863284) (h3 : 0 < t) (h4 : t ≤ 11863284) : (s + t) * s ≤ 300000000000000 := by
  have := Int.mul_le_mul (show s + t ≤ 23726568 by omega) h2 (by omega) (by decide)
  omega
theorem up_one (s t a : Int) (h1 : 0 < s) (h2 : s ≤ 11863284) (h3 : 0 < t) (h4 : t ≤ 11863284) (h5 : 0 ≤ a) (h6 : a ≤ s * s) (h7 : a ≤ 70368744177664) :
    mulDivUpV (s + t) a s = (cdiv ((s + t) * a) s, 0) ∧ -300000000000000 ≤ cdiv ((s + t) * a) s ∧ cdiv ((s + t) * a) s ≤ 300000000000000 := by
  have k := cdiv_range (s + t) a s h1 (by omega) h5 h6
  have k1 := rs_le h1 h2 h3 h4
  refine ⟨?_, by omega, by omega⟩
  rw [mulDivUp_eq _ _ _ (Sm.of64 (by omega) (by omega)) (Sm.of64 (by omega) (by omega)) (Sm.of64 (by omega) (by omega)), if_neg (by omega)]
  show fitI (cdiv ((s + t) * a) s) = _
  unfold fitI; rw [if_pos (by omega)]
theorem down_one (s t a : Int) (h1 : 0 < s) (h2 : s ≤ 11863284) (h3 : 0 < t) (h4 : t ≤ 11863284) (h5 : -(s * s) ≤ a) (h6 : a ≤ s * s) (h7 : -70368744177664 ≤ a) (h8 : a ≤ 70368744177664) :
    mulDivV (s + t) a s = (((s + t) * a).fdiv s, 0) ∧ -300000000000000 ≤ ((s + t) * a).fdiv s ∧ ((s + t) * a).fdiv s ≤ 300000000000000 := by
  have k := fdiv_range (s + t) a s h1 (by omega) h5 h6
  have k1 := rs_le h1 h2 h3 h4
  refine ⟨?_, by omega, by omega⟩
  rw [mulDiv_eq _ _ _ (Sm.of64 (by omega) (by omega)) (Sm.of64 (by omega) (by omega)) (Sm.of64 (by omega) (by omega)), if_neg (by omega)]
  unfold fitI; rw [if_pos (by omega)]

set_option maxHeartbeats 2000000 in
theorem part_c (fn : FuncId) (s t x y q p : Int) (g6 g7 g8 : Nat) (w : World) (hfn : ∀ args w, Sem.run Try.prog (callFunc fn args) w = .ok (.enter fn args) w)
    (hs : 0 < s ∧ s ≤ 11863284 ∧ 0 < t ∧ t ≤ 11863284) (hq : -300000000000000 ≤ q ∧ q ≤ 300000000000000) (hp : -300000000000000 ≤ p ∧ p ≤ 300000000000000)
    (H1 : ∀ w, Calls Try.prog fn #[.int .i64 (s + t), .int .i64 x, .int .i64 s] w fun e w' => e = .returned (.tuple #[.int .i64 q, .int .i64 0]) ∧ Below w.heap.size w w')
    (H2 : ∀ w, Calls Try.prog fn #[.int .i64 (s + t), .int .i64 y, .int .i64 t] w fun e w' => e = .returned (.tuple #[.int .i64 p, .int .i64 0]) ∧ Below w.heap.size w w')
    (h6 : w.cell? ⟨g6, 0, none⟩ = some (.int .i64 s)) (h7 : w.cell? ⟨g7, 0, none⟩ = some (.int .i64 t)) (h8 : w.heap[g8]? = some (.cells #[.int .i64 0] 28 (0, 0))) :
    Calls Try.prog 70 (#[.func (.func fn) #[] #[], .int .i64 x, .int .i64 y] ++ #[.pointer (some ⟨g6, 0, none⟩), .pointer (some ⟨g7, 0, none⟩), .pointer (some ⟨g8, 0, none⟩)]) w
      fun e w' => e = .returned (.int .i64 (q + p)) ∧ Below w.heap.size w w' := by
  have HH1 := Lib.hid H1
  have HH2 := Lib.hid H2
  have H8 : Hid (Blk w g8 #[.int .i64 0] 28) := h8
  have l6 := block_lt_of_cell h6
  have l7 := block_lt_of_cell h7
  have l8 := H8.out.lt
  have c8 := H8.out.at 0
  have f8 := H8.out.frozen 0
  simp only at l6 l7
  have er : wrap64 (s + t) = s + t := by unfold wrap64; omega
  have eq : wrap64 (q + p) = q + p := by unfold wrap64; omega
  clear H1 H2 h8 hs hq hp
  show Calls Try.prog 70 #[.func (.func fn) #[] #[], .int .i64 x, .int .i64 y, .pointer (some ⟨g6, 0, none⟩), .pointer (some ⟨g7, 0, none⟩), .pointer (some ⟨g8, 0, none⟩)] w _
  go_enter Try.func70, Try.ntmps70
  go_wp2_with fail
  simp only [er]
  refine (HH1.out _).mono ?_; rintro e w1 ⟨rfl, hb1⟩; have z_w1 := hb1.size; (try simp at z_w1); obtain ⟨y_w1_g6, c_w1_g6, f_w1_g6, r_w1_g6, t_w1_g6, p_w1_g6⟩ := bk hb1 (g6) (by first | omega | (simp; done) | (simp; omega) | fail); obtain ⟨y_w1_g7, c_w1_g7, f_w1_g7, r_w1_g7, t_w1_g7, p_w1_g7⟩ := bk hb1 (g7) (by first | omega | (simp; done) | (simp; omega) | fail); obtain ⟨y_w1_g8, c_w1_g8, f_w1_g8, r_w1_g8, t_w1_g8, p_w1_g8⟩ := bk hb1 (g8) (by first | omega | (simp; done) | (simp; omega) | fail)
  go_wp2_with fail
  simp only [er]
  refine (HH2.out _).mono ?_; rintro e w2 ⟨rfl, hb2⟩; have z_w2 := hb2.size; (try simp at z_w2); obtain ⟨y_w2_g6, c_w2_g6, f_w2_g6, r_w2_g6, t_w2_g6, p_w2_g6⟩ := bk hb2 (g6) (by first | omega | (simp; done) | (simp; omega) | fail); obtain ⟨y_w2_g7, c_w2_g7, f_w2_g7, r_w2_g7, t_w2_g7, p_w2_g7⟩ := bk hb2 (g7) (by first | omega | (simp; done) | (simp; omega) | fail); obtain ⟨y_w2_g8, c_w2_g8, f_w2_g8, r_w2_g8, t_w2_g8, p_w2_g8⟩ := bk hb2 (g8) (by first | omega | (simp; done) | (simp; omega) | fail)
  go_wp2
  simp only [eq]
  go_ret
  have e2 : w2.setCell ⟨g8, 0, none⟩ (.int .i64 0) = w2 := setCell_self (t := 28) (fr := (0, 0)) (((H8.out.keep hb1).keep hb2))
  exact ⟨rfl, by rw [e2]; exact (by repeat (first | with_reducible exact Below.refl _ _ | with_reducible exact Below_of_hid (by assumption) | with_reducible refine Below.drew ?_ | with_reducible refine below_drewN ?_ _ | (with_reducible refine Below_putRow ?_ ?hB _ _; case hB => (first | omega | (simp; done) | (simp; omega))) | (with_reducible refine Below.alloc ?_ ?hB _; case hB => (first | omega | (simp; done) | (simp; omega))) | (with_reducible refine Below.setCell ?_ ?hB _; case hB => (first | omega | (simp; done) | (simp; omega))) | (with_reducible refine Below.trans ?_ (Below.mono (by assumption) ?hB); case hB => (first | omega | (simp; done) | (simp; omega)))))⟩

/-- The three parts of a sum. -/
structure SumOk (e f : El) (s t : Int) : Prop where
  s1 : e.rad = s
  t1 : f.rad = t
  hs : 0 < s ∧ s ≤ 11863284 ∧ 0 < t ∧ t ≤ 11863284
  he : e.may = true
  hf : f.may = true
theorem sumOk (e f : El) (he : e.may = true) (hf : f.may = true) : SumOk e f e.rad f.rad :=
  ⟨rfl, rfl, ⟨e.rad_pos he, e.rad_le, f.rad_pos hf, f.rad_le⟩, he, hf⟩
theorem mdu (a b c : Int) (V : Int × Int) (h : mulDivUpV a b c = V) (ha : -9223372036854775808 ≤ a ∧ a ≤ 9223372036854775807) (hb : -9223372036854775808 ≤ b ∧ b ≤ 9223372036854775807) (hc : -9223372036854775808 ≤ c ∧ c ≤ 9223372036854775807) (w : World) :
    Calls Try.prog 71 #[.int .i64 a, .int .i64 b, .int .i64 c] w fun e w' => e = .returned (.tuple #[.int .i64 V.1, .int .i64 V.2]) ∧ Below w.heap.size w w' := by
  subst h; exact mulDivUp_c a b c ha hb hc w
theorem mdd (a b c : Int) (V : Int × Int) (h : mulDivV a b c = V) (ha : -9223372036854775808 ≤ a ∧ a ≤ 9223372036854775807) (hb : -9223372036854775808 ≤ b ∧ b ≤ 9223372036854775807) (hc : -9223372036854775808 ≤ c ∧ c ≤ 9223372036854775807) (w : World) :
    Calls Try.prog 72 #[.int .i64 a, .int .i64 b, .int .i64 c] w fun e w' => e = .returned (.tuple #[.int .i64 V.1, .int .i64 V.2]) ∧ Below w.heap.size w w' := by
  subst h; exact mulDiv_c a b c ha hb hc w
set_option maxRecDepth 100000 in
theorem part_up (s t x y : Int) (g6 g7 g8 : Nat) (w : World)
    (hs : 0 < s ∧ s ≤ 11863284 ∧ 0 < t ∧ t ≤ 11863284) (hx : 0 ≤ x ∧ x ≤ s * s ∧ x ≤ 70368744177664) (hy : 0 ≤ y ∧ y ≤ t * t ∧ y ≤ 70368744177664)
    (h6 : w.cell? ⟨g6, 0, none⟩ = some (.int .i64 s)) (h7 : w.cell? ⟨g7, 0, none⟩ = some (.int .i64 t)) (h8 : w.heap[g8]? = some (.cells #[.int .i64 0] 28 (0, 0))) :
    Calls Try.prog 70 #[.func (.func 71) #[] #[], .int .i64 x, .int .i64 y, .pointer (some ⟨g6, 0, none⟩), .pointer (some ⟨g7, 0, none⟩), .pointer (some ⟨g8, 0, none⟩)] w
      fun e w' => e = .returned (.int .i64 (cdiv ((s + t) * x) s + cdiv ((s + t) * y) t)) ∧ Below w.heap.size w w' := by
  have u1 := up_one s t x hs.1 hs.2.1 hs.2.2.1 hs.2.2.2 hx.1 hx.2.1 hx.2.2
  have u2 := up_one t s y hs.2.2.1 hs.2.2.2 hs.1 hs.2.1 hy.1 hy.2.1 hy.2.2
  rw [Int.add_comm t s] at u2
  exact part_c 71 s t x y _ _ g6 g7 g8 w (by intro args w; rfl) hs u1.2 u2.2
    (fun w => mdu _ _ _ (cdiv ((s + t) * x) s, 0) u1.1 (by omega) (by omega) (by omega) w) (fun w => mdu _ _ _ (cdiv ((s + t) * y) t, 0) u2.1 (by omega) (by omega) (by omega) w) h6 h7 h8
set_option maxRecDepth 100000 in
theorem part_down (s t x y : Int) (g6 g7 g8 : Nat) (w : World)
    (hs : 0 < s ∧ s ≤ 11863284 ∧ 0 < t ∧ t ≤ 11863284) (hx : -(s * s) ≤ x ∧ x ≤ s * s ∧ -70368744177664 ≤ x ∧ x ≤ 70368744177664) (hy : -(t * t) ≤ y ∧ y ≤ t * t ∧ -70368744177664 ≤ y ∧ y ≤ 70368744177664)
    (h6 : w.cell? ⟨g6, 0, none⟩ = some (.int .i64 s)) (h7 : w.cell? ⟨g7, 0, none⟩ = some (.int .i64 t)) (h8 : w.heap[g8]? = some (.cells #[.int .i64 0] 28 (0, 0))) :
    Calls Try.prog 70 #[.func (.func 72) #[] #[], .int .i64 x, .int .i64 y, .pointer (some ⟨g6, 0, none⟩), .pointer (some ⟨g7, 0, none⟩), .pointer (some ⟨g8, 0, none⟩)] w
      fun e w' => e = .returned (.int .i64 (((s + t) * x).fdiv s + ((s + t) * y).fdiv t)) ∧ Below w.heap.size w w' := by
  have u1 := down_one s t x hs.1 hs.2.1 hs.2.2.1 hs.2.2.2 hx.1 hx.2.1 hx.2.2.1 hx.2.2.2
  have u2 := down_one t s y hs.2.2.1 hs.2.2.2 hs.1 hs.2.1 hy.1 hy.2.1 hy.2.2.1 hy.2.2.2
  rw [Int.add_comm t s] at u2
  exact part_c 72 s t x y _ _ g6 g7 g8 w (by intro args w; rfl) hs u1.2 u2.2
    (fun w => mdd _ _ _ (((s + t) * x).fdiv s, 0) u1.1 (by omega) (by omega) (by omega) w) (fun w => mdd _ _ _ (((s + t) * y).fdiv t, 0) u2.1 (by omega) (by omega) (by omega) w) h6 h7 h8
end Go.Proofs.Ytfohihjeemmedaa
