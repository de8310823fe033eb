/- The walks of package mat: in, May, Add, Adj. The walks of package mat: Add, Adj. The walks of package mat: times, det, psd, Det, Quad, Psd, Least, Holds. The walk of package mat's Quad. The walks of package mat: Least, Holds. The plain laws of package mat: orders of matrices. No program in sight. The plain law of positive matrices: the square form. No program in sight. The plain laws of what a matrix holds. No program in sight. The plain law of sums and growth of ellipses. No program in sight. -/
import Derived.Test.YtdipecepgfaokaaBW
import Derived.Test.YtdipecepgfaokaaBA
import Derived.Deep.Cut
import Derived.Test.YtdipecepgfaokaaBN
import Derived.Test.YtdipecepgfaokaaBY
namespace Go.Proofs.Ytdipecepgfaokaa
set_option linter.unusedSimpArgs false
set_option linter.unusedVariables false
open Go.RowKit

/-- A number that may be in a matrix. -/
def inB (n : Int) : Bool := decide (-2305843009213693952 ≤ n) && decide (n ≤ 2305843009213693952)
/-- A matrix that may be. -/
def mayB (a b d : Int) : Bool := inB a && inB b && inB d
theorem inB_iff (n : Int) : inB n = true ↔ -2305843009213693952 ≤ n ∧ n ≤ 2305843009213693952 := by unfold inB; simp
theorem mayB_iff (a b d : Int) : mayB a b d = true ↔ (-2305843009213693952 ≤ a ∧ a ≤ 2305843009213693952) ∧ (-2305843009213693952 ≤ b ∧ b ≤ 2305843009213693952) ∧ (-2305843009213693952 ≤ d ∧ d ≤ 2305843009213693952) := by
  unfold mayB; simp [inB_iff, and_assoc]
/-- A matrix, a point, as values. -/
abbrev symV (a b d : Int) : Value := .agg #[.int .i64 a, .int .i64 b, .int .i64 d]
abbrev ptV (x y : Int) : Value := .agg #[.int .i64 x, .int .i64 y]
/-- An int64. -/
def I64 (z : Int) : Prop := -9223372036854775808 ≤ z ∧ z ≤ 9223372036854775807
end Go.Proofs.Ytdipecepgfaokaa
namespace Go.Proofs.Ytdipecepgfaokaa
open Go.RowKit

/-- mat.Adj. -/
def adjV (a b d : Int) : Value := if mayB a b d then symV d (-b) a else symV 0 0 0
/-- The end of a walk whose results are a row of cells and a slot. -/
theorem bodyPost_row_tmp {P : Program} {fn : Func} {R : Ending → World → Prop} {a : Act} {w : World} {p u : Tmp} {ty : TypeId} {g : Nat} (n : Nat) (cs : Array Value) (v : Value) {d : TypeDesc}
    (h : fn.results = #[.cell p ty, .tmp u]) (hde : a.defers = []) (hp : a.tmps.getD p undef = .pointer (some ⟨g, 0, none⟩)) (hv : a.tmps.getD u undef = v)
    (hu : P.underlying ty = some d) (hd : d.isRow = true) (hi : (P.info? ty).map (·.size) = some n) (hg : w.row? g 0 n = some cs) (hR : R (.returned (.tuple #[.agg cs, v])) w) :
    bodyPost P fn R .ret a w := by
  refine bodyPost_ret (v := .tuple #[.agg cs, v]) ?_ hde hR
  rw [results_cell_tmp h, hp, hv]
  simp [asAddr, Result.andThen, run_loadVar_row? w g 0 n ty cs d hu hd hi hg]
/-- mat.Add. -/
def addV (a b d a' b' d' : Int) : Value × Int :=
  if mayB a b d && mayB a' b' d' then (if mayB (a + a') (b + b') (d + d') then (symV (a + a') (b + b') (d + d'), 0) else (symV 0 0 0, 2)) else (symV 0 0 0, 1)
end Go.Proofs.Ytdipecepgfaokaa
namespace Go.Proofs.Ytdipecepgfaokaa
open Go.RowKit

set_option maxRecDepth 100000 in
set_option maxHeartbeats 1000000 in
theorem det_c (x y z : WI) (w : World) :
    Calls Try.prog 45 #[.agg x.cells, .agg y.cells, .agg z.cells] w fun e w' => e = .returned (.agg ((x.mul z).sub (y.mul y)).cells) ∧ Below w.heap.size w w' := by
  go_enter Try.func45, Try.ntmps45
  go_wp2_with fail
  go_region_held3 (fun w' => w'.row? w.heap.size 0 18 = some x.cells ∧ w'.row? (w.heap.size + 1) 0 18 = some y.cells ∧ w'.row? (w.heap.size + 1 + 1) 0 18 = some z.cells) (go_simp)
    (first
      | (go_at_call 51; refine (mul_I _ _ _).mono ?_; rintro e w1 ⟨rfl, hb1⟩; have z_w1 := hb1.size; (try simp at z_w1); obtain ⟨y_w1_0_0, c_w1_0_0, f_w1_0_0, r_w1_0_0, t_w1_0_0, p_w1_0_0⟩ := bk hb1 (w.heap.size) (by first | omega | (simp; done) | (simp; omega) | fail); obtain ⟨y_w1_0_1, c_w1_0_1, f_w1_0_1, r_w1_0_1, t_w1_0_1, p_w1_0_1⟩ := bk hb1 (w.heap.size + 1) (by first | omega | (simp; done) | (simp; omega) | fail); obtain ⟨y_w1_0_2, c_w1_0_2, f_w1_0_2, r_w1_0_2, t_w1_0_2, p_w1_0_2⟩ := bk hb1 (w.heap.size + 1 + 1) (by first | omega | (simp; done) | (simp; omega) | fail); obtain ⟨y_w1_0_3, c_w1_0_3, f_w1_0_3, r_w1_0_3, t_w1_0_3, p_w1_0_3⟩ := bk hb1 (w.heap.size + 1 + 1 + 1) (by first | omega | (simp; done) | (simp; omega) | fail))
      | (go_at_call 50; refine (sub_I _ _ _).mono ?_; rintro e w2 ⟨rfl, hb2⟩; have z_w2 := hb2.size; (try simp at z_w2); obtain ⟨y_w2_0_0, c_w2_0_0, f_w2_0_0, r_w2_0_0, t_w2_0_0, p_w2_0_0⟩ := bk hb2 (w.heap.size) (by first | omega | (simp; done) | (simp; omega) | fail); obtain ⟨y_w2_0_1, c_w2_0_1, f_w2_0_1, r_w2_0_1, t_w2_0_1, p_w2_0_1⟩ := bk hb2 (w.heap.size + 1) (by first | omega | (simp; done) | (simp; omega) | fail); obtain ⟨y_w2_0_2, c_w2_0_2, f_w2_0_2, r_w2_0_2, t_w2_0_2, p_w2_0_2⟩ := bk hb2 (w.heap.size + 1 + 1) (by first | omega | (simp; done) | (simp; omega) | fail); obtain ⟨y_w2_0_3, c_w2_0_3, f_w2_0_3, r_w2_0_3, t_w2_0_3, p_w2_0_3⟩ := bk hb2 (w.heap.size + 1 + 1 + 1) (by first | omega | (simp; done) | (simp; omega) | fail)))
  go_wp2
  exact bodyPost_row 18 ((x.mul z).sub (y.mul y)).cells rfl rfl rfl Try.underlying79 rfl info_Int (by go_simp) ⟨rfl, (by repeat (first | exact Below.refl _ _ | exact Below_of_hid (by assumption) | refine Below.drew ?_ | refine below_drewN ?_ _ | refine Below_putRow ?_ (by first | omega | (simp; done) | (simp; omega) | fail) _ _ | refine Below.alloc ?_ (by first | omega | (simp; done) | (simp; omega) | fail) _ | refine Below.setCell ?_ (by first | omega | (simp; done) | (simp; omega) | fail) _ | refine Below.trans ?_ (Below.mono (by assumption) (by first | omega | (simp; done) | (simp; omega) | fail))))⟩
/-- mat.psd. -/
def psdW (x y z : WI) : Bool := decide (0 ≤ x.sign) && decide (0 ≤ z.sign) && decide (0 ≤ ((x.mul z).sub (y.mul y)).sign)
theorem of_both (a b d : Int) (ha : Sm 127 a) (hb : Sm 127 b) (hd : Sm 127 d) : ((WI.of a).mul (WI.of d)).sub ((WI.of b).mul (WI.of b)) = WI.of (a * d - b * b) := by
  rw [WI.of_mul (ha.lim (by decide)) (hd.lim (by decide)), WI.of_mul (hb.lim (by decide)) (hb.lim (by decide)), WI.of_sub ((ha.mul hd).lim (by decide)) ((hb.mul hb).lim (by decide))]
/-- A B, B D is positive semidefinite. -/
def psdB (a b d : Int) : Bool := decide (0 ≤ a) && decide (0 ≤ d) && decide (0 ≤ a * d - b * b)
theorem psdW_of (a b d : Int) (ha : Sm 127 a) (hb : Sm 127 b) (hd : Sm 127 d) : psdW (WI.of a) (WI.of b) (WI.of d) = psdB a b d := by
  unfold psdW psdB
  rw [of_both a b d ha hb hd, WI.of_sign (ha.lim (by decide)), WI.of_sign (hd.lim (by decide)), WI.of_sign (((ha.mul hd).sub (hb.mul hb)).lim (by decide))]
  simp only [Int.sign_nonneg_iff]
theorem I64.sm {a : Int} (h : I64 a) : Sm 127 a := (Sm.of64 h.1 h.2).mono (by decide)
set_option maxRecDepth 100000 in
set_option maxHeartbeats 1000000 in
theorem matdet_c (a b d : Int) (ha : I64 a) (hb : I64 b) (hd : I64 d) (w : World) :
    Calls Try.prog 41 #[symV a b d] w fun e w' => e = .returned (.agg (WI.of (a * d - b * b)).cells) ∧ Below w.heap.size w w' := by
  have E := Lib.hid (of_both a b d ha.sm hb.sm hd.sm)
  have HA := Lib.hid ha
  have HB := Lib.hid hb
  have HD := Lib.hid hd
  clear ha hb hd
  go_enter Try.func41, Try.ntmps41
  go_wp2_with fail
  go_region_held3 (fun w' => w'.cell? ⟨w.heap.size, 0, none⟩ = some (.int .i64 a) ∧ w'.cell? ⟨w.heap.size, 1, none⟩ = some (.int .i64 b) ∧ w'.cell? ⟨w.heap.size, 2, none⟩ = some (.int .i64 d)) (go_simp)
    (first
      | (go_at_call 46; refine (of_c _ (by first | exact HA.out.1 | exact HB.out.1 | exact HD.out.1) (by first | exact HA.out.2 | exact HB.out.2 | exact HD.out.2) _).mono ?_; rintro e w1 ⟨rfl, hb1⟩; have z_w1 := hb1.size; (try simp at z_w1); obtain ⟨y_w1_0_0, c_w1_0_0, f_w1_0_0, r_w1_0_0, t_w1_0_0, p_w1_0_0⟩ := bk hb1 (w.heap.size) (by first | omega | (simp; done) | (simp; omega) | fail); obtain ⟨y_w1_0_1, c_w1_0_1, f_w1_0_1, r_w1_0_1, t_w1_0_1, p_w1_0_1⟩ := bk hb1 (w.heap.size + 1) (by first | omega | (simp; done) | (simp; omega) | fail))
      | (go_at_call 45; refine (det_c _ _ _ _).mono ?_; rintro e w2 ⟨rfl, hb2⟩; have z_w2 := hb2.size; (try simp at z_w2); obtain ⟨y_w2_0_0, c_w2_0_0, f_w2_0_0, r_w2_0_0, t_w2_0_0, p_w2_0_0⟩ := bk hb2 (w.heap.size) (by first | omega | (simp; done) | (simp; omega) | fail); obtain ⟨y_w2_0_1, c_w2_0_1, f_w2_0_1, r_w2_0_1, t_w2_0_1, p_w2_0_1⟩ := bk hb2 (w.heap.size + 1) (by first | omega | (simp; done) | (simp; omega) | fail)))
  go_wp2
  exact bodyPost_row 18 (((WI.of a).mul (WI.of d)).sub ((WI.of b).mul (WI.of b))).cells rfl rfl rfl Try.underlying79 rfl info_Int (by go_simp) ⟨by rw [E.out], (by repeat (first | exact Below.refl _ _ | exact Below_of_hid (by assumption) | refine Below.drew ?_ | refine below_drewN ?_ _ | refine Below_putRow ?_ (by first | omega | (simp; done) | (simp; omega) | fail) _ _ | refine Below.alloc ?_ (by first | omega | (simp; done) | (simp; omega) | fail) _ | refine Below.setCell ?_ (by first | omega | (simp; done) | (simp; omega) | fail) _ | refine Below.trans ?_ (Below.mono (by assumption) (by first | omega | (simp; done) | (simp; omega) | fail))))⟩
end Go.Proofs.Ytdipecepgfaokaa
namespace Go.Proofs.Ytdipecepgfaokaa
open Go.RowKit

theorem quad_eq (a b d x y : Int) (ha : I64 a) (hb : I64 b) (hd : I64 d) (hx : I64 x) (hy : I64 y) :
    (((WI.of a).mul (WI.of (x * x))).add ((WI.of d).mul (WI.of (y * y)))).add (((WI.of b).mul (WI.of (x * y))).add ((WI.of b).mul (WI.of (x * y)))) = WI.of (a * (x * x) + d * (y * y) + (b * (x * y) + b * (x * y))) := by
  have A := Sm.of64 ha.1 ha.2
  have B := Sm.of64 hb.1 hb.2
  have D := Sm.of64 hd.1 hd.2
  have X := Sm.of64 hx.1 hx.2
  have Y := Sm.of64 hy.1 hy.2
  rw [WI.of_mul (A.lim (by decide)) ((X.mul X).lim (by decide)), WI.of_mul (D.lim (by decide)) ((Y.mul Y).lim (by decide)), WI.of_mul (B.lim (by decide)) ((X.mul Y).lim (by decide)),
    WI.of_add ((A.mul (X.mul X)).lim (by decide)) ((D.mul (Y.mul Y)).lim (by decide)), WI.of_add ((B.mul (X.mul Y)).lim (by decide)) ((B.mul (X.mul Y)).lim (by decide)),
    WI.of_add (((A.mul (X.mul X)).add (D.mul (Y.mul Y))).lim (by decide)) (((B.mul (X.mul Y)).add (B.mul (X.mul Y))).lim (by decide))]
end Go.Proofs.Ytdipecepgfaokaa
namespace Go.Proofs.Ytdipecepgfaokaa
open Go.RowKit

/-- mat.Least. -/
def leastB (a b d a' b' d' : Int) : Bool := mayB a b d && mayB a' b' d' && psdB (a - a') (b - b') (d - d')
theorem less_eq (n x y : Int) (hn : I64 n) (hx : I64 x) (hy : I64 y) : (WI.of n).sub (WI.of (x * y)) = WI.of (n - x * y) :=
  WI.of_sub ((Sm.of64 hn.1 hn.2).lim (by decide)) (((Sm.of64 hx.1 hx.2).mul (Sm.of64 hy.1 hy.2)).lim (by decide))
theorem less_sm (n x y : Int) (hn : I64 n) (hx : I64 x) (hy : I64 y) : Sm 127 (n - x * y) :=
  Sm.sub ((Sm.of64 hn.1 hn.2).mono (by decide)) ((Sm.of64 hx.1 hx.2).mul (Sm.of64 hy.1 hy.2))
/-- mat.Holds. -/
def holdsB (a b d x y : Int) : Bool := psdB (a - x * x) (b - x * y) (d - y * y)
end Go.Proofs.Ytdipecepgfaokaa
namespace Go.Proofs.Ytdipecepgfaokaa

theorem psdB_iff (a b d : Int) : psdB a b d = true ↔ 0 ≤ a ∧ 0 ≤ d ∧ 0 ≤ a * d - b * b := by
  unfold psdB; simp [and_assoc]
theorem sq_le_of {a b : Int} (ha : 0 ≤ a) (h : a * a ≤ b * b) (hb : 0 ≤ b) : a ≤ b := by
  rcases Int.lt_or_le b a with h1 | h1
  · have h2 : b * b ≤ b * a := Int.mul_le_mul_of_nonneg_left (Int.le_of_lt h1) hb
    have h3 : b * a < a * a := Int.mul_lt_mul_of_pos_right h1 (by omega)
    omega
  · exact h1
theorem int_sq_nonneg (a : Int) : 0 ≤ a * a := by
  rcases Int.le_total 0 a with h | h
  · exact Int.mul_nonneg h h
  · exact Int.mul_nonneg_of_nonpos_of_nonpos h h
/-- The cross term of two positive matrices: 2 b b' is at most a d' + a' d, either way. -/
theorem cross (a b d a' b' d' : Int) (h1 : 0 ≤ a) (h2 : 0 ≤ d) (h3 : b * b ≤ a * d) (h1' : 0 ≤ a') (h2' : 0 ≤ d') (h3' : b' * b' ≤ a' * d') : 2 * (b * b') ≤ a * d' + a' * d := by
  have hs : 0 ≤ a * d' + a' * d := Int.add_nonneg (Int.mul_nonneg h1 h2') (Int.mul_nonneg h1' h2)
  rcases Int.le_total (2 * (b * b')) 0 with h | h
  · omega
  · refine sq_le_of h ?_ hs
    have e1 : 2 * (b * b') * (2 * (b * b')) = 4 * ((b * b) * (b' * b')) := by grind
    have e2 : (b * b) * (b' * b') ≤ (a * d) * (a' * d') := Int.mul_le_mul h3 h3' (int_sq_nonneg _) (Int.mul_nonneg h1 h2)
    have e3 : (a * d) * (a' * d') = (a * d') * (a' * d) := by grind
    have e4 := int_sq_nonneg (a * d' - a' * d)
    rw [e1]; rw [e3] at e2
    generalize a * d' = x at *
    generalize a' * d = y at *
    have e5 : (x - y) * (x - y) = x * x - x * y - y * x + y * y := by rw [Int.sub_mul, Int.mul_sub, Int.mul_sub]; omega
    have e6 : (x + y) * (x + y) = x * x + x * y + (y * x + y * y) := by rw [Int.add_mul, Int.mul_add, Int.mul_add]
    have e7 : y * x = x * y := Int.mul_comm _ _
    omega
theorem cross_neg (a b d a' b' d' : Int) (h1 : 0 ≤ a) (h2 : 0 ≤ d) (h3 : b * b ≤ a * d) (h1' : 0 ≤ a') (h2' : 0 ≤ d') (h3' : b' * b' ≤ a' * d') : -(2 * (b * b')) ≤ a * d' + a' * d := by
  have := cross a (-b) d a' b' d' h1 h2 (by rw [Int.neg_mul_neg]; exact h3) h1' h2' h3'
  rw [Int.neg_mul] at this; omega
theorem psd_add (a b d a' b' d' : Int) (h : psdB a b d = true) (h' : psdB a' b' d' = true) : psdB (a + a') (b + b') (d + d') = true := by
  rw [psdB_iff] at *
  obtain ⟨h1, h2, h3⟩ := h
  obtain ⟨h1', h2', h3'⟩ := h'
  refine ⟨by omega, by omega, ?_⟩
  have := cross a b d a' b' d' h1 h2 (by omega) h1' h2' (by omega)
  have e1 : (a + a') * (d + d') = a * d + a * d' + (a' * d + a' * d') := by rw [Int.add_mul, Int.mul_add, Int.mul_add]
  have e2 : (b + b') * (b + b') = b * b + b * b' + (b' * b + b' * b') := by rw [Int.add_mul, Int.mul_add, Int.mul_add]
  have e3 : b' * b = b * b' := Int.mul_comm _ _
  omega
theorem psd_zero : psdB 0 0 0 = true := by decide
theorem psd_both (a b d : Int) (h : psdB a b d = true) (h' : psdB (-a) (-b) (-d) = true) : a = 0 ∧ b = 0 ∧ d = 0 := by
  rw [psdB_iff] at *
  obtain ⟨h1, h2, h3⟩ := h
  obtain ⟨h1', h2', h3'⟩ := h'
  have ha : a = 0 := by omega
  have hd : d = 0 := by omega
  subst ha; subst hd
  have hb := int_sq_nonneg b
  have : b * b = 0 := by omega
  exact ⟨rfl, by rcases Int.mul_eq_zero.1 this with h | h <;> exact h, rfl⟩
theorem least_iff (a b d a' b' d' : Int) : leastB a b d a' b' d' = true ↔ mayB a b d = true ∧ mayB a' b' d' = true ∧ psdB (a - a') (b - b') (d - d') = true := by
  unfold leastB; simp [and_assoc]
theorem least_trans (a b d a' b' d' a'' b'' d'' : Int) (h : leastB a b d a' b' d' = true) (h' : leastB a' b' d' a'' b'' d'' = true) : leastB a b d a'' b'' d'' = true := by
  rw [least_iff] at *
  refine ⟨h.1, h'.2.1, ?_⟩
  have := psd_add _ _ _ _ _ _ h.2.2 h'.2.2
  rwa [show a - a' + (a' - a'') = a - a'' by omega, show b - b' + (b' - b'') = b - b'' by omega, show d - d' + (d' - d'') = d - d'' by omega] at this
theorem least_refl (a b d : Int) (h : mayB a b d = true) : leastB a b d a b d = true := by
  rw [least_iff]; refine ⟨h, h, ?_⟩
  rw [Int.sub_self, Int.sub_self, Int.sub_self]; exact psd_zero
theorem least_anti (a b d a' b' d' : Int) (h : leastB a b d a' b' d' = true) (h' : leastB a' b' d' a b d = true) : a = a' ∧ b = b' ∧ d = d' := by
  rw [least_iff] at *
  have := psd_both (a - a') (b - b') (d - d') h.2.2 (by rw [Int.neg_sub, Int.neg_sub, Int.neg_sub]; exact h'.2.2)
  omega
theorem addV_form (a b d a' b' d' : Int) : ∃ p q r e, addV a b d a' b' d' = (symV p q r, e) ∧ (e = 0 → mayB (a + a') (b + b') (d + d') = true ∧ p = a + a' ∧ q = b + b' ∧ r = d + d') := by
  unfold addV
  split
  · split
    · rename_i h; exact ⟨_, _, _, _, rfl, fun _ => ⟨h, rfl, rfl, rfl⟩⟩
    · exact ⟨_, _, _, _, rfl, fun h => absurd h (by decide)⟩
  · exact ⟨_, _, _, _, rfl, fun h => absurd h (by decide)⟩
theorem least_sums (a b d a' b' d' x y z x' y' z' : Int) (h : leastB a b d a' b' d' = true) (h' : leastB x y z x' y' z' = true) (m1 : mayB (a + x) (b + y) (d + z) = true) (m2 : mayB (a' + x') (b' + y') (d' + z') = true) :
    leastB (a + x) (b + y) (d + z) (a' + x') (b' + y') (d' + z') = true := by
  rw [least_iff] at *
  refine ⟨m1, m2, ?_⟩
  have := psd_add _ _ _ _ _ _ h.2.2 h'.2.2
  rwa [show a - a' + (x - x') = a + x - (a' + x') by omega, show b - b' + (y - y') = b + y - (b' + y') by omega, show d - d' + (z - z') = d + z - (d' + z') by omega] at this
end Go.Proofs.Ytdipecepgfaokaa
namespace Go.Proofs.Ytdipecepgfaokaa

/-- The square form. -/
def form (a b d x y : Int) : Int := a * (x * x) + d * (y * y) + (b * (x * y) + b * (x * y))
theorem form_sm (a b d x y : Int) (ha : I64 a) (hb : I64 b) (hd : I64 d) (hx : I64 x) (hy : I64 y) : Sm 191 (form a b d x y) := by
  have A := Sm.of64 ha.1 ha.2
  have B := Sm.of64 hb.1 hb.2
  have D := Sm.of64 hd.1 hd.2
  have X := Sm.of64 hx.1 hx.2
  have Y := Sm.of64 hy.1 hy.2
  exact Sm.add ((A.mul (X.mul X)).add (D.mul (Y.mul Y))) ((B.mul (X.mul Y)).add (B.mul (X.mul Y)))
theorem psd_form (a b d x y : Int) (h : psdB a b d = true) : 0 ≤ form a b d x y := by
  rw [psdB_iff] at h
  obtain ⟨h1, h2, h3⟩ := h
  unfold form
  rcases Int.lt_or_eq_of_le h1 with h0 | h0
  · have e : a * (a * (x * x) + d * (y * y) + (b * (x * y) + b * (x * y))) = (a * x + b * y) * (a * x + b * y) + (a * d - b * b) * (y * y) := by grind
    have p1 := int_sq_nonneg (a * x + b * y)
    have p2 := Int.mul_nonneg h3 (int_sq_nonneg y)
    rcases Int.lt_or_le (a * (x * x) + d * (y * y) + (b * (x * y) + b * (x * y))) 0 with hn | hn
    · have := Int.mul_neg_of_pos_of_neg h0 hn
      omega
    · exact hn
  · subst h0
    have hb := int_sq_nonneg b
    have hb0 : b = 0 := by
      have : b * b = 0 := by omega
      rcases Int.mul_eq_zero.1 this with h | h <;> exact h
    subst hb0
    have := Int.mul_nonneg h2 (int_sq_nonneg y)
    omega
/-- Where it is not positive one of six points shows it. -/
theorem not_psd (a b d : Int) (h : psdB a b d = false) (h1 : 0 ≤ form a b d 1 0) (h2 : 0 ≤ form a b d 0 1) (h3 : 0 ≤ form a b d b (-a)) (h4 : 0 ≤ form a b d d (-b)) (h5 : 0 ≤ form a b d 1 1) (h6 : 0 ≤ form a b d 1 (-1)) : False := by
  have e1 : form a b d 1 0 = a := by unfold form; grind
  have e2 : form a b d 0 1 = d := by unfold form; grind
  have e3 : form a b d b (-a) = a * (a * d - b * b) := by unfold form; grind
  have e4 : form a b d d (-b) = d * (a * d - b * b) := by unfold form; grind
  have e5 : form a b d 1 1 = a + d + 2 * b := by unfold form; grind
  have e6 : form a b d 1 (-1) = a + d - 2 * b := by unfold form; grind
  rw [e1] at h1; rw [e2] at h2; rw [e3] at h3; rw [e4] at h4; rw [e5] at h5; rw [e6] at h6
  have hn : a * d - b * b < 0 := by
    rcases Int.lt_or_le (a * d - b * b) 0 with hn | hn
    · exact hn
    · have := (psdB_iff a b d).2 ⟨h1, h2, hn⟩; rw [h] at this; cases this
  have ha : a = 0 := by
    rcases Int.lt_or_eq_of_le h1 with h0 | h0
    · have := Int.mul_neg_of_pos_of_neg h0 hn; omega
    · exact h0.symm
  have hd : d = 0 := by
    rcases Int.lt_or_eq_of_le h2 with h0 | h0
    · have := Int.mul_neg_of_pos_of_neg h0 hn; omega
    · exact h0.symm
  subst ha; subst hd
  have : b = 0 := by omega
  subst this; simp at hn
end Go.Proofs.Ytdipecepgfaokaa
namespace Go.Proofs.Ytdipecepgfaokaa

theorem psd_point (c x y : Int) (hc : 0 ≤ c) : psdB (c * (x * x)) (c * (x * y)) (c * (y * y)) = true := by
  rw [psdB_iff]
  refine ⟨Int.mul_nonneg hc (int_sq_nonneg x), Int.mul_nonneg hc (int_sq_nonneg y), ?_⟩
  have : c * (x * x) * (c * (y * y)) - c * (x * y) * (c * (x * y)) = 0 := by grind
  omega
theorem holds_neg (a b d x y : Int) (h : holdsB a b d x y = true) : holdsB a b d (-x) (-y) = true := by
  unfold holdsB at *; rw [Int.neg_mul_neg, Int.neg_mul_neg, Int.neg_mul_neg]; exact h
theorem holds_part (a b d x y k u v : Int) (hk : 1 ≤ k) (hx : x = k * u) (hy : y = k * v) (h : holdsB a b d x y = true) : holdsB a b d u v = true := by
  unfold holdsB at *
  have hc : 0 ≤ k * k - 1 := by
    have := Int.mul_le_mul hk hk (by omega) (by omega)
    omega
  have p := psd_add _ _ _ _ _ _ h (psd_point (k * k - 1) u v hc)
  subst hx; subst hy
  rwa [show a - k * u * (k * u) + (k * k - 1) * (u * u) = a - u * u by grind, show b - k * u * (k * v) + (k * k - 1) * (u * v) = b - u * v by grind, show d - k * v * (k * v) + (k * k - 1) * (v * v) = d - v * v by grind] at p
theorem holds_zero (a b d x y : Int) (h : holdsB a b d x y = true) : holdsB a b d 0 0 = true := by
  unfold holdsB at *
  have p := psd_add _ _ _ _ _ _ h (psd_point 1 x y (by decide))
  rwa [show a - x * x + 1 * (x * x) = a - 0 * 0 by omega, show b - x * y + 1 * (x * y) = b - 0 * 0 by omega, show d - y * y + 1 * (y * y) = d - 0 * 0 by omega] at p
theorem holds_div (a b d x y k : Int) (hk : 1 ≤ k) (hx : x.tmod k = 0) (hy : y.tmod k = 0) (h : holdsB a b d x y = true) : holdsB a b d (x.tdiv k) (y.tdiv k) = true := by
  refine holds_part a b d x y k _ _ hk ?_ ?_ h
  · have := Int.mul_tdiv_add_tmod x k; omega
  · have := Int.mul_tdiv_add_tmod y k; omega
theorem holds_least (a b d a' b' d' x y : Int) (hl : leastB a b d a' b' d' = true) (h : holdsB a' b' d' x y = true) : holdsB a b d x y = true := by
  rw [least_iff] at hl
  unfold holdsB at *
  have p := psd_add _ _ _ _ _ _ hl.2.2 h
  rwa [show a - a' + (a' - x * x) = a - x * x by omega, show b - b' + (b' - x * y) = b - x * y by omega, show d - d' + (d' - y * y) = d - y * y by omega] at p
theorem tdiv_i64 (x k : Int) (_hk : 1 ≤ k) (hx : -1048576 ≤ x ∧ x ≤ 1048576) : -1048576 ≤ x.tdiv k ∧ x.tdiv k ≤ 1048576 := by
  have h1 := Int.natAbs_tdiv_le_natAbs x k
  omega
end Go.Proofs.Ytdipecepgfaokaa
namespace Go.Proofs.Ytdipecepgfaokaa

theorem psd_of_form (a b d : Int) (h : ∀ x y, 0 ≤ form a b d x y) : psdB a b d = true := by
  cases hp : psdB a b d with
  | true => rfl
  | false => exact absurd (not_psd a b d hp (h _ _) (h _ _) (h _ _) (h _ _) (h _ _) (h _ _)) (fun h => h)
/-- A point held: along every direction. -/
theorem holds_form (a b d x y : Int) : holdsB a b d x y = true ↔ ∀ h k, (x * h + y * k) * (x * h + y * k) ≤ form a b d h k := by
  have e : ∀ h k, form (a - x * x) (b - x * y) (d - y * y) h k = form a b d h k - (x * h + y * k) * (x * h + y * k) := by
    intro h k; unfold form; grind
  constructor
  · intro hh h k
    have := psd_form _ _ _ h k hh
    rw [e] at this; omega
  · intro hh
    refine psd_of_form _ _ _ fun h k => ?_
    rw [e]; have := hh h k; omega
/-- One part of a sum: what rounding takes away is made good. -/
theorem part_form (s r a b d A B D h k : Int) (hA : r * a ≤ s * A) (hD : r * d ≤ s * D) (hB1 : s * B ≤ r * b) (hB2 : r * b < s * B + s) :
    r * form a b d h k ≤ s * form (A + 1) B (D + 1) h k := by
  obtain ⟨al, hal⟩ : ∃ al, s * A = r * a + al := ⟨s * A - r * a, by omega⟩
  obtain ⟨de, hde⟩ : ∃ de, s * D = r * d + de := ⟨s * D - r * d, by omega⟩
  obtain ⟨be, hbe⟩ : ∃ be, s * B = r * b - be := ⟨r * b - s * B, by omega⟩
  have e : s * form (A + 1) B (D + 1) h k = r * form a b d h k + (al * (h * h) + de * (k * k) + ((s - be) * (h * h + k * k) + be * ((h - k) * (h - k)))) := by
    unfold form
    have e1 : s * ((A + 1) * (h * h) + (D + 1) * (k * k) + (B * (h * k) + B * (h * k))) = (s * A) * (h * h) + s * (h * h) + (s * D) * (k * k) + s * (k * k) + 2 * ((s * B) * (h * k)) := by grind
    rw [e1, hal, hde, hbe]; grind
  have p1 := Int.mul_nonneg (show 0 ≤ al by omega) (int_sq_nonneg h)
  have p2 := Int.mul_nonneg (show 0 ≤ de by omega) (int_sq_nonneg k)
  have p3 := Int.mul_nonneg (show 0 ≤ s - be by omega) (show 0 ≤ h * h + k * k by have := int_sq_nonneg h; have := int_sq_nonneg k; omega)
  have p4 := Int.mul_nonneg (show 0 ≤ be by omega) (int_sq_nonneg (h - k))
  omega
theorem form_add (a b d a' b' d' h k : Int) : form (a + a') (b + b') (d + d') h k = form a b d h k + form a' b' d' h k := by unfold form; grind
/-- The sum of two: along a direction, scaled. -/
theorem sum_dir (s t f f' g g' u v K : Int) (hs : 0 < s) (ht : 0 < t) (h1 : (s + t) * f ≤ s * g) (h2 : (s + t) * f' ≤ t * g') (hK : 0 ≤ K) (hu : u * u ≤ K * f) (hv : v * v ≤ K * f') :
    (u + v) * (u + v) ≤ K * (g + g') := by
  have hst : 0 < s * t := Int.mul_pos hs ht
  have hr : 0 < s + t := by omega
  have k1 : t * (u * u) + s * (v * v) ≤ K * (t * f + s * f') := by
    have a1 := Int.mul_le_mul_of_nonneg_left hu (show 0 ≤ t by omega)
    have a2 := Int.mul_le_mul_of_nonneg_left hv (show 0 ≤ s by omega)
    have e : K * (t * f + s * f') = t * (K * f) + s * (K * f') := by grind
    omega
  have k2 : (s + t) * (t * f + s * f') ≤ s * t * (g + g') := by
    have a1 := Int.mul_le_mul_of_nonneg_left h1 (show 0 ≤ t by omega)
    have a2 := Int.mul_le_mul_of_nonneg_left h2 (show 0 ≤ s by omega)
    have e1 : (s + t) * (t * f + s * f') = t * ((s + t) * f) + s * ((s + t) * f') := by grind
    have e2 : s * t * (g + g') = t * (s * g) + s * (t * g') := by grind
    omega
  have k3 : s * t * ((u + v) * (u + v)) + (t * u - s * v) * (t * u - s * v) = (s + t) * (t * (u * u) + s * (v * v)) := by grind
  have k4 := int_sq_nonneg (t * u - s * v)
  have k5 := Int.mul_le_mul_of_nonneg_left k1 (show 0 ≤ s + t by omega)
  have k6 := Int.mul_le_mul_of_nonneg_left k2 hK
  have e3 : (s + t) * (K * (t * f + s * f')) = K * ((s + t) * (t * f + s * f')) := by grind
  have e4 : K * (s * t * (g + g')) = s * t * (K * (g + g')) := by grind
  have k7 : s * t * ((u + v) * (u + v)) ≤ s * t * (K * (g + g')) := by omega
  exact Int.le_of_mul_le_mul_left k7 hst
/-! ### Quotients up and down -/
/-- A quotient, up. -/
def cdiv (x s : Int) : Int := -((-x).fdiv s)
theorem floor_spec (x s : Int) (hs : 0 < s) : s * x.fdiv s ≤ x ∧ x < s * x.fdiv s + s := by
  rw [Int.fdiv_eq_ediv_of_nonneg _ (by omega)]
  have h1 := Int.mul_ediv_add_emod x s
  have h2 := Int.emod_nonneg x (show s ≠ 0 by omega)
  have h3 := Int.emod_lt_of_pos x hs
  omega
theorem cdiv_spec (x s : Int) (hs : 0 < s) : x ≤ s * cdiv x s ∧ s * cdiv x s < x + s := by
  have h := floor_spec (-x) s hs
  unfold cdiv
  rw [Int.mul_neg]; omega
/-- An ellipse: its centre, its matrix. -/
structure El where
  x : Int
  y : Int
  a : Int
  b : Int
  d : Int
def El.zero : El := ⟨0, 0, 0, 0, 0⟩
def mayPt (x y : Int) : Bool := decide (-4194304 ≤ x ∧ x ≤ 4194304 ∧ -4194304 ≤ y ∧ y ≤ 4194304)
/-- An ellipse that may be. -/
def El.may (e : El) : Bool := mayPt e.x e.y && decide (1 ≤ e.a ∧ e.a ≤ 70368744177664 ∧ 1 ≤ e.d ∧ e.d ≤ 70368744177664 ∧ -70368744177664 ≤ e.b ∧ e.b ≤ 70368744177664) && decide (0 < e.a * e.d - e.b * e.b)
theorem mayPt_iff (x y : Int) : mayPt x y = true ↔ -4194304 ≤ x ∧ x ≤ 4194304 ∧ -4194304 ≤ y ∧ y ≤ 4194304 := by unfold mayPt; simp
theorem El.may_iff (e : El) : e.may = true ↔ (-4194304 ≤ e.x ∧ e.x ≤ 4194304 ∧ -4194304 ≤ e.y ∧ e.y ≤ 4194304) ∧ (1 ≤ e.a ∧ e.a ≤ 70368744177664 ∧ 1 ≤ e.d ∧ e.d ≤ 70368744177664 ∧ -70368744177664 ≤ e.b ∧ e.b ≤ 70368744177664) ∧ 0 < e.a * e.d - e.b * e.b := by
  unfold El.may; rw [Bool.and_eq_true, Bool.and_eq_true, mayPt_iff, decide_eq_true_eq, decide_eq_true_eq, and_assoc]
/-- A point in an ellipse. -/
def El.has (e : El) (p q : Int) : Bool := e.may && decide (-1073741824 ≤ p ∧ p ≤ 1073741824 ∧ -1073741824 ≤ q ∧ q ≤ 1073741824) && holdsB e.a e.b e.d (p - e.x) (q - e.y)
theorem El.has_iff (e : El) (p q : Int) : e.has p q = true ↔ e.may = true ∧ (-1073741824 ≤ p ∧ p ≤ 1073741824 ∧ -1073741824 ≤ q ∧ q ≤ 1073741824) ∧ holdsB e.a e.b e.d (p - e.x) (q - e.y) = true := by
  unfold El.has; rw [Bool.and_eq_true, Bool.and_eq_true, decide_eq_true_eq, and_assoc]
def El.tr (e : El) : Int := if e.may = true then e.a + e.d else 0
def El.rad (e : El) : Int := (up e.tr.toNat : Nat)
/-- The sum of two. -/
def sumEl (e f : El) : El := ⟨e.x + f.x, e.y + f.y, cdiv ((e.rad + f.rad) * e.a) e.rad + cdiv ((e.rad + f.rad) * f.a) f.rad + 2, ((e.rad + f.rad) * e.b).fdiv e.rad + ((e.rad + f.rad) * f.b).fdiv f.rad, cdiv ((e.rad + f.rad) * e.d) e.rad + cdiv ((e.rad + f.rad) * f.d) f.rad + 2⟩
def sumE (e f : El) : El × Int := if e.may = true ∧ f.may = true then (if (sumEl e f).may = true then (sumEl e f, 0) else (El.zero, 2)) else (El.zero, 1)
def ballE (x y r : Int) : El × Int := if mayPt x y = true ∧ 1 ≤ r ∧ r ≤ 4194304 then (⟨x, y, r * r, 0, r * r⟩, 0) else (El.zero, 1)
def growE (e : El) (r : Int) : El × Int := if e.may = true ∧ 0 ≤ r ∧ r ≤ 4194304 then (if r = 0 then (e, 0) else sumE e (ballE 0 0 r).1) else (El.zero, 1)
def ageE (e : El) (v n : Int) : El × Int := if e.may = true ∧ 0 ≤ v ∧ 0 ≤ n then (if 0 < n ∧ (4194304 : Int).tdiv n < v then (El.zero, 2) else growE e (v * n)) else (El.zero, 1)
theorem El.rad_pos (e : El) (h : e.may = true) : 0 < e.rad := by
  have h1 := (El.may_iff e).1 h
  have h2 := up_spec e.tr.toNat
  have h3 : e.tr = e.a + e.d := by unfold El.tr; rw [if_pos h]
  unfold El.rad
  rcases Nat.eq_zero_or_pos (up e.tr.toNat) with h0 | h0
  · rw [h0] at h2; omega
  · omega
/-- The radius reaches as far as the ellipse does. -/
theorem El.rad_sq (e : El) (h : e.may = true) : e.a + e.d ≤ e.rad * e.rad := by
  have h1 := (El.may_iff e).1 h
  have h2 := (up_spec e.tr.toNat).1
  have h3 : e.tr = e.a + e.d := by unfold El.tr; rw [if_pos h]
  unfold El.rad
  rw [← Int.natCast_mul]
  omega
theorem El.rad_le (e : El) : e.rad ≤ 11863284 := by
  have h1 : e.tr ≤ 140737488355328 := by
    unfold El.tr; split
    · rename_i h; have := (El.may_iff e).1 h; omega
    · decide
  have := up_le e.tr.toNat 11863284 (by omega)
  unfold El.rad; omega
theorem form_sumEl (e f : El) (h k : Int) : form (sumEl e f).a (sumEl e f).b (sumEl e f).d h k =
    form (cdiv ((e.rad + f.rad) * e.a) e.rad + 1) (((e.rad + f.rad) * e.b).fdiv e.rad) (cdiv ((e.rad + f.rad) * e.d) e.rad + 1) h k + form (cdiv ((e.rad + f.rad) * f.a) f.rad + 1) (((e.rad + f.rad) * f.b).fdiv f.rad) (cdiv ((e.rad + f.rad) * f.d) f.rad + 1) h k := by
  rw [← form_add]; unfold sumEl; simp only
  congr 1 <;> omega
theorem sumEl_parts (e f : El) (he : e.may = true) (hf : f.may = true) (h k : Int) :
    (e.rad + f.rad) * form e.a e.b e.d h k ≤ e.rad * form (cdiv ((e.rad + f.rad) * e.a) e.rad + 1) (((e.rad + f.rad) * e.b).fdiv e.rad) (cdiv ((e.rad + f.rad) * e.d) e.rad + 1) h k ∧
      (e.rad + f.rad) * form f.a f.b f.d h k ≤ f.rad * form (cdiv ((e.rad + f.rad) * f.a) f.rad + 1) (((e.rad + f.rad) * f.b).fdiv f.rad) (cdiv ((e.rad + f.rad) * f.d) f.rad + 1) h k := by
  have h1 := e.rad_pos he
  have h2 := f.rad_pos hf
  exact ⟨part_form _ _ _ _ _ _ _ _ _ _ (cdiv_spec _ _ h1).1 (cdiv_spec _ _ h1).1 (floor_spec _ _ h1).1 (floor_spec _ _ h1).2,
    part_form _ _ _ _ _ _ _ _ _ _ (cdiv_spec _ _ h2).1 (cdiv_spec _ _ h2).1 (floor_spec _ _ h2).1 (floor_spec _ _ h2).2⟩
/-- The sum's matrix, along every direction. -/
theorem sumEl_dir (e f : El) (he : e.may = true) (hf : f.may = true) (h k u v K : Int) (hK : 0 ≤ K) (hu : u * u ≤ K * form e.a e.b e.d h k) (hv : v * v ≤ K * form f.a f.b f.d h k) :
    (u + v) * (u + v) ≤ K * form (sumEl e f).a (sumEl e f).b (sumEl e f).d h k := by
  rw [form_sumEl]
  have hp := sumEl_parts e f he hf h k
  exact sum_dir _ _ _ _ _ _ u v K (e.rad_pos he) (f.rad_pos hf) hp.1 hp.2 hK hu hv
theorem sumE_ok {e f o : El} (h : sumE e f = (o, 0)) : e.may = true ∧ f.may = true ∧ o = sumEl e f ∧ o.may = true := by
  unfold sumE at h
  split at h
  · rename_i h1
    split at h
    · rename_i h2; injection h with h3 h4; subst h3; exact ⟨h1.1, h1.2, rfl, h2⟩
    · injection h with h3 h4; cases h4
  · injection h with h3 h4; cases h4
/-- How far a point of an ellipse is from its centre. -/
theorem El.near (e : El) (p q : Int) (h : e.has p q = true) : -8388608 ≤ p - e.x ∧ p - e.x ≤ 8388608 ∧ -8388608 ≤ q - e.y ∧ q - e.y ≤ 8388608 := by
  obtain ⟨hm, _, hh⟩ := (El.has_iff e p q).1 h
  have h1 := (El.may_iff e).1 hm
  unfold holdsB at hh
  rw [psdB_iff] at hh
  have key : ∀ z a : Int, 0 ≤ a - z * z → a ≤ 70368744177664 → -8388608 ≤ z ∧ z ≤ 8388608 := by
    intro z a h2 h3
    constructor
    · rcases Int.lt_or_le z (-8388608) with h4 | h4
      · have : (-z) * (-z) ≥ 8388609 * 8388609 := Int.mul_le_mul (by omega) (by omega) (by decide) (by omega)
        rw [Int.neg_mul_neg] at this; omega
      · exact h4
    · rcases Int.lt_or_le 8388608 z with h4 | h4
      · have : z * z ≥ 8388609 * 8388609 := Int.mul_le_mul (by omega) (by omega) (by decide) (by omega)
        omega
      · exact h4
  have k1 := key _ _ hh.1 h1.2.1.2.1
  have k2 := key _ _ hh.2.1 h1.2.1.2.2.2.1
  omega
theorem El.has_dir (e : El) (p q : Int) (h : e.has p q = true) (i j : Int) : ((p - e.x) * i + (q - e.y) * j) * ((p - e.x) * i + (q - e.y) * j) ≤ form e.a e.b e.d i j :=
  (holds_form _ _ _ _ _).1 ((El.has_iff e p q).1 h).2.2 i j
/-- The sum holds all sums. -/
theorem sum_holds {e f o : El} (h : sumE e f = (o, 0)) (p q p' q' : Int) (h1 : e.has p q = true) (h2 : f.has p' q' = true) : o.has (p + p') (q + q') = true := by
  obtain ⟨he, hf, rfl, ho⟩ := sumE_ok h
  have n1 := e.near p q h1
  have n2 := f.near p' q' h2
  have m1 := (El.may_iff e).1 he
  have m2 := (El.may_iff f).1 hf
  refine (El.has_iff _ _ _).2 ⟨ho, by omega, (holds_form _ _ _ _ _).2 fun i j => ?_⟩
  have d1 := e.has_dir p q h1 i j
  have d2 := f.has_dir p' q' h2 i j
  have := sumEl_dir e f he hf i j ((p - e.x) * i + (q - e.y) * j) ((p' - f.x) * i + (q' - f.y) * j) 1 (by decide) (by omega) (by omega)
  have e1 : (p + p' - (sumEl e f).x) * i + (q + q' - (sumEl e f).y) * j = ((p - e.x) * i + (q - e.y) * j) + ((p' - f.x) * i + (q' - f.y) * j) := by
    show (p + p' - (e.x + f.x)) * i + (q + q' - (e.y + f.y)) * j = _; grind
  rw [e1]; omega
theorem sum_comm (e f : El) : sumE e f = sumE f e := by
  have h : sumEl e f = sumEl f e := by
    unfold sumEl
    have hr : e.rad + f.rad = f.rad + e.rad := Int.add_comm _ _
    rw [hr]
    congr 1 <;> omega
  unfold sumE; rw [h]
  simp only [and_comm]
theorem cdiv_ge (r a s : Int) (hs : 0 < s) (hr : s ≤ r) (ha : 0 ≤ a) : a ≤ cdiv (r * a) s := by
  have h1 := (cdiv_spec (r * a) s hs).1
  have h2 : s * a ≤ r * a := Int.mul_le_mul_of_nonneg_right hr ha
  exact Int.le_of_mul_le_mul_left (Int.le_trans h2 h1) hs
theorem sum_trace {e f o : El} (h : sumE e f = (o, 0)) : e.tr + f.tr + 4 ≤ o.tr := by
  obtain ⟨he, hf, rfl, ho⟩ := sumE_ok h
  have h1 := e.rad_pos he
  have h2 := f.rad_pos hf
  have m1 := (El.may_iff e).1 he
  have m2 := (El.may_iff f).1 hf
  unfold El.tr
  rw [if_pos he, if_pos hf, if_pos ho]
  have a1 := cdiv_ge (e.rad + f.rad) e.a e.rad h1 (by omega) (by omega)
  have a2 := cdiv_ge (e.rad + f.rad) e.d e.rad h1 (by omega) (by omega)
  have a3 := cdiv_ge (e.rad + f.rad) f.a f.rad h2 (by omega) (by omega)
  have a4 := cdiv_ge (e.rad + f.rad) f.d f.rad h2 (by omega) (by omega)
  show e.a + e.d + (f.a + f.d) + 4 ≤ (cdiv ((e.rad + f.rad) * e.a) e.rad + cdiv ((e.rad + f.rad) * f.a) f.rad + 2) + (cdiv ((e.rad + f.rad) * e.d) e.rad + cdiv ((e.rad + f.rad) * f.d) f.rad + 2)
  omega
theorem may_form (e : El) (h : e.may = true) (i j : Int) : 0 ≤ form e.a e.b e.d i j := by
  have m := (El.may_iff e).1 h
  exact psd_form _ _ _ _ _ ((psdB_iff _ _ _).2 ⟨by omega, by omega, by omega⟩)
/-- The sum's matrix is at least each one's. -/
theorem sum_least {e f o : El} (h : sumE e f = (o, 0)) : psdB (o.a - e.a) (o.b - e.b) (o.d - e.d) = true := by
  obtain ⟨he, hf, rfl, ho⟩ := sumE_ok h
  refine psd_of_form _ _ _ fun i j => ?_
  have e1 : form ((sumEl e f).a - e.a) ((sumEl e f).b - e.b) ((sumEl e f).d - e.d) i j = form (sumEl e f).a (sumEl e f).b (sumEl e f).d i j - form e.a e.b e.d i j := by unfold form; grind
  rw [e1, form_sumEl]
  have hp := sumEl_parts e f he hf i j
  have h1 := e.rad_pos he
  have h2 := f.rad_pos hf
  have f1 := may_form e he i j
  have f2 := may_form f hf i j
  have k1 : e.rad * form e.a e.b e.d i j ≤ (e.rad + f.rad) * form e.a e.b e.d i j := Int.mul_le_mul_of_nonneg_right (by omega) f1
  have k2 : f.rad * 0 ≤ (e.rad + f.rad) * form f.a f.b f.d i j := by rw [Int.mul_zero]; exact Int.mul_nonneg (by omega) f2
  have k3 := Int.le_of_mul_le_mul_left (Int.le_trans k1 hp.1) h1
  have k4 := Int.le_of_mul_le_mul_left (Int.le_trans k2 hp.2) h2
  omega
/-! ### Growth by a ball, with time -/
theorem sq_bound {z r : Int} (hr : 0 ≤ r) (h : z * z ≤ r * r) : -r ≤ z ∧ z ≤ r := by
  constructor
  · rcases Int.lt_or_le z (-r) with h1 | h1
    · have : (r + 1) * (r + 1) ≤ (-z) * (-z) := Int.mul_le_mul (by omega) (by omega) (by omega) (by omega)
      rw [Int.neg_mul_neg] at this
      have e : (r + 1) * (r + 1) = r * r + 2 * r + 1 := by grind
      omega
    · exact h1
  · rcases Int.lt_or_le r z with h1 | h1
    · have : (r + 1) * (r + 1) ≤ z * z := Int.mul_le_mul (by omega) (by omega) (by omega) (by omega)
      have e : (r + 1) * (r + 1) = r * r + 2 * r + 1 := by grind
      omega
    · exact h1
theorem ball_may (x y r : Int) (hp : mayPt x y = true) (h1 : 1 ≤ r) (h2 : r ≤ 4194304) : (⟨x, y, r * r, 0, r * r⟩ : El).may = true := by
  have p := (mayPt_iff x y).1 hp
  have k1 : 1 * 1 ≤ r * r := Int.mul_le_mul h1 h1 (by decide) (by omega)
  have k2 : r * r ≤ 4194304 * 4194304 := Int.mul_le_mul h2 h2 (by omega) (by decide)
  have k3 : 1 ≤ r * r ∧ r * r ≤ 70368744177664 ∧ 1 ≤ r * r ∧ r * r ≤ 70368744177664 ∧ (-70368744177664 : Int) ≤ 0 ∧ (0 : Int) ≤ 70368744177664 := ⟨by omega, by omega, by omega, by omega, by decide, by decide⟩
  refine (El.may_iff _).2 ⟨p, k3, ?_⟩
  have : 1 * 1 ≤ (r * r) * (r * r) := Int.mul_le_mul (by omega) (by omega) (by decide) (by omega)
  simp only [Int.mul_zero, Int.sub_zero]
  omega
theorem ball_holds (r u v : Int) (h : u * u + v * v ≤ r * r) : holdsB (r * r) 0 (r * r) u v = true := by
  have hu := int_sq_nonneg u
  have hv := int_sq_nonneg v
  have hr := int_sq_nonneg r
  refine (psdB_iff _ _ _).2 ⟨by omega, by omega, ?_⟩
  have e : (r * r - u * u) * (r * r - v * v) - (0 - u * v) * (0 - u * v) = (r * r) * (r * r - (u * u + v * v)) := by grind
  rw [e]; exact Int.mul_nonneg hr (by omega)
theorem ball_has (x y r u v : Int) (hp : mayPt x y = true) (h1 : 1 ≤ r) (h2 : r ≤ 4194304) (h : u * u + v * v ≤ r * r) : (⟨x, y, r * r, 0, r * r⟩ : El).has (x + u) (y + v) = true := by
  have p := (mayPt_iff x y).1 hp
  have hu := int_sq_nonneg u
  have hv := int_sq_nonneg v
  have b1 := sq_bound (show 0 ≤ r by omega) (show u * u ≤ r * r by omega)
  have b2 := sq_bound (show 0 ≤ r by omega) (show v * v ≤ r * r by omega)
  refine (El.has_iff _ _ _).2 ⟨ball_may x y r hp h1 h2, by omega, ?_⟩
  rw [show x + u - x = u by omega, show y + v - y = v by omega]
  exact ball_holds r u v h
theorem growE_ok {e g : El} {r : Int} (h : growE e r = (g, 0)) : e.may = true ∧ 0 ≤ r ∧ r ≤ 4194304 ∧ ((r = 0 ∧ g = e) ∨ (1 ≤ r ∧ sumE e ⟨0, 0, r * r, 0, r * r⟩ = (g, 0))) := by
  unfold growE at h
  split at h
  · rename_i h1
    refine ⟨h1.1, h1.2.1, h1.2.2, ?_⟩
    split at h
    · rename_i h2; injection h with h3 h4; exact .inl ⟨h2, h3.symm⟩
    · rename_i h2
      right
      refine ⟨by omega, ?_⟩
      have : ballE 0 0 r = (⟨0, 0, r * r, 0, r * r⟩, 0) := by
        unfold ballE; rw [if_pos ⟨by decide, by omega, h1.2.2⟩]
      rw [this] at h; exact h
  · injection h with h3 h4; cases h4
/-- Grown it holds what is so near. -/
theorem grow_holds {e g : El} {r : Int} (h : growE e r = (g, 0)) (p q u v : Int) (hp : e.has p q = true) (hu : u * u + v * v ≤ r * r) : g.has (p + u) (q + v) = true := by
  obtain ⟨_, h0, h1, ⟨rfl, rfl⟩ | ⟨h2, h3⟩⟩ := growE_ok h
  · have a := int_sq_nonneg u
    have b := int_sq_nonneg v
    have u0 : u = 0 := by
      have : u * u = 0 := by omega
      rcases Int.mul_eq_zero.1 this with h | h <;> exact h
    have v0 : v = 0 := by
      have : v * v = 0 := by omega
      rcases Int.mul_eq_zero.1 this with h | h <;> exact h
    subst u0; subst v0
    rw [Int.add_zero, Int.add_zero]; exact hp
  · have := ball_has 0 0 r u v (by decide) h2 h1 hu
    rw [Int.zero_add, Int.zero_add] at this
    exact sum_holds h3 p q u v hp this
theorem grow_more {e g : El} {r : Int} (h : growE e r = (g, 0)) (hr : r ≠ 0) : g.x = e.x ∧ g.y = e.y ∧ e.tr < g.tr ∧ g.may = true := by
  obtain ⟨he, h0, h1, ⟨h2, _⟩ | ⟨h2, h3⟩⟩ := growE_ok h
  · exact absurd h2 hr
  · obtain ⟨_, hb, ho, hm⟩ := sumE_ok h3
    have ht := sum_trace h3
    refine ⟨by rw [ho]; show e.x + 0 = e.x; omega, by rw [ho]; show e.y + 0 = e.y; omega, ?_, hm⟩
    have : 0 ≤ (⟨0, 0, r * r, 0, r * r⟩ : El).tr := by
      unfold El.tr; rw [if_pos hb]; have := int_sq_nonneg r; show 0 ≤ r * r + r * r; omega
    omega
theorem grow_centre {e g : El} {r : Int} (h : growE e r = (g, 0)) : g.x = e.x ∧ g.y = e.y ∧ g.may = true := by
  by_cases hr : r = 0
  · obtain ⟨he, _, _, ⟨_, rfl⟩ | ⟨h2, _⟩⟩ := growE_ok h
    · exact ⟨rfl, rfl, he⟩
    · omega
  · have := grow_more h hr; exact ⟨this.1, this.2.1, this.2.2.2⟩
theorem growE_zero (e : El) (h : e.may = true) : growE e 0 = (e, 0) := by unfold growE; rw [if_pos ⟨h, by decide, by decide⟩, if_pos rfl]
theorem ageE_ok {e g : El} {v n : Int} (h : ageE e v n = (g, 0)) : growE e (v * n) = (g, 0) ∧ 0 ≤ v ∧ 0 ≤ n := by
  unfold ageE at h
  split at h
  · rename_i h1
    split at h
    · injection h with h3 h4; cases h4
    · exact ⟨h, h1.2.1, h1.2.2⟩
  · injection h with h3 h4; cases h4
end Go.Proofs.Ytdipecepgfaokaa
