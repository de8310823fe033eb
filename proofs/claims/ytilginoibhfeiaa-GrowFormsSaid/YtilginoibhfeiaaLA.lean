/- The laws of wide numbers: the plain part (ring, order, signs, shifts). Laws of wide numbers: plain; the walk of awake. -/
import Derived.Test.YtilginoibhfeiaaSH
import Derived.Test.YtilginoibhfeiaaBY
import Derived.Test.YtilginoibhfeiaaBA
import Derived.Test.YtilginoibhfeiaaRD
import Derived.Test.YtilginoibhfeiaaHX
namespace Go.Proofs.Ytilginoibhfeiaa
open Go.RowKit

theorem WI.eta {x : WI} (h : x.ov = false) : ∃ n : Int, x = WI.of n ∧ n.natAbs < lim ∧ x.sz = n.natAbs := by
  unfold WI.ov at h
  cases hv : x.v with
  | none => rw [hv] at h; cases h
  | some n =>
    have hl := x.ok n hv
    refine ⟨n, WI.ext' (by rw [hv, WI.of_v hl]), hl, ?_⟩
    unfold WI.sz; rw [hv]
theorem WI.of_sz {n : Int} (h : n.natAbs < lim) : (WI.of n).sz = n.natAbs := by unfold WI.sz; rw [WI.of_v h]
theorem WI.of_ov {n : Int} (h : n.natAbs < lim) : (WI.of n).ov = false := by unfold WI.ov; rw [WI.of_v h]; rfl
theorem WI.over_ov : WI.over.ov = true := rfl
theorem cmp_of (a b : Int) (ha : a.natAbs < lim) (hb : b.natAbs < lim) : (WI.of a).cmp (WI.of b) = (if a < b then -1 else if b < a then 1 else 0, true) := by
  unfold WI.cmp; rw [WI.of_v ha, WI.of_v hb]
theorem cmp_self {x : WI} (h : x.ov = false) : x.cmp x = (0, true) := by
  obtain ⟨n, rfl, hl, -⟩ := WI.eta h
  rw [cmp_of n n hl hl, if_neg (Int.lt_irrefl _), if_neg (Int.lt_irrefl _)]
/-! ### Shifts -/
theorem shl_of (n : Int) (k : Nat) (hl : n.natAbs < lim) (hk : k ≤ 1023) : (WI.of n).shl k = WI.of (n * ((2 ^ k : Nat) : Int)) := by
  by_cases h0 : n = 0
  · subst h0
    rw [WI.shl_still _ _ (.inr (by rw [WI.of_sz hl]; rfl)), Int.zero_mul]
  · have h1 : (WI.of n).sz ≠ 0 := by rw [WI.of_sz hl]; omega
    unfold WI.shl; rw [WI.of_v hl]
    simp only [h0, if_false]
    rw [if_pos (by omega), if_neg (by omega), Int.toNat_natCast]
theorem shl_back (n : Int) (k : Nat) (hl : n.natAbs < lim) (hl2 : (n * ((2 ^ k : Nat) : Int)).natAbs < lim) : (WI.of (n * ((2 ^ k : Nat) : Int))).shl (-(k : Int)) = WI.of n := by
  have hp : 0 < 2 ^ k := Nat.two_pow_pos k
  by_cases h0 : n = 0
  · subst h0
    rw [Int.zero_mul]
    exact WI.shl_still _ _ (.inr (by rw [WI.of_sz hl]; rfl))
  · have hne : n * ((2 ^ k : Nat) : Int) ≠ 0 := Int.mul_ne_zero h0 (by omega)
    by_cases hk : k = 0
    · subst hk
      unfold WI.shl; rw [WI.of_v hl2]
      simp only [hne, if_false]
      simp
    · unfold WI.shl; rw [WI.of_v hl2]
      simp only [hne, if_false]
      rw [if_neg (by omega), Int.neg_neg, Int.toNat_natCast, Int.mul_fdiv_cancel _ (by omega)]
theorem bl_mul_pow (n : Int) (k : Nat) : bl (n * ((2 ^ k : Nat) : Int)).natAbs = if n = 0 then 0 else bl n.natAbs + k := by
  rw [Int.natAbs_mul, Int.natAbs_natCast]
  by_cases h0 : n = 0
  · rw [if_pos h0, h0]; simp [bl_zero]
  · rw [if_neg h0, bl_shift _ _ (by omega)]
theorem lim_of_bl {n : Int} (h : bl n.natAbs ≤ 1023) : n.natAbs < lim := (lim_bl _).1 h
/-- What WideShifts asks. -/
theorem shifts_law (z : WI) (k : Nat) (h : z.ov = false) (hb : bl z.sz ≤ 400) (hk : k < 300) :
    ((z.shl k).shl 1).cmp ((z.shl k).add (z.shl k)) = (0, true) ∧ ((z.shl k).shl (-(k : Int))).cmp z = (0, true) ∧ bl (z.shl k).sz = (if z.sign = 0 then 0 else bl z.sz + k) := by
  obtain ⟨n, rfl, hl, hs⟩ := WI.eta h
  rw [hs] at hb
  have b1 := bl_mul_pow n k
  have l1 : (n * ((2 ^ k : Nat) : Int)).natAbs < lim := lim_of_bl (by rw [b1]; split <;> omega)
  obtain ⟨m, hm⟩ : ∃ m, m = n * ((2 ^ k : Nat) : Int) := ⟨_, rfl⟩
  have l2 : (m * ((2 ^ 1 : Nat) : Int)).natAbs < lim := lim_of_bl (by rw [bl_mul_pow, hm]; split; exact Nat.zero_le _; rw [b1]; split <;> omega)
  rw [shl_of n k hl (by omega)]
  refine ⟨?_, ?_, ?_⟩
  · rw [← hm] at l1 ⊢
    have := shl_of m 1 l1 (by decide)
    rw [show ((1 : Nat) : Int) = 1 from rfl] at this
    rw [this, WI.of_add l1 l1, show m + m = m * ((2 ^ 1 : Nat) : Int) by omega]
    exact cmp_self (WI.of_ov l2)
  · rw [shl_back n k hl l1]
    exact cmp_self (WI.of_ov hl)
  · rw [WI.of_sz l1, b1, WI.of_sz hl, WI.of_sign hl]
    by_cases h0 : n = 0
    · rw [if_pos h0, if_pos (by rw [h0]; rfl)]
    · rw [if_neg h0, if_neg (by rw [Int.sign_eq_zero_iff_zero]; exact h0)]
/-! ### Ring -/
theorem add_comm' (x y : WI) : x.add y = y.add x := by
  unfold WI.add; cases x.v <;> cases y.v <;> simp only []
  rw [Int.add_comm]
theorem mul_comm' (x y : WI) : x.mul y = y.mul x := by
  unfold WI.mul; cases x.v <;> cases y.v <;> simp only []
  rw [Int.mul_comm]
theorem sm_of_bl {n : Int} {k : Nat} (h : bl n.natAbs ≤ k) : Sm k n := Nat.le_of_lt ((bl_le_iff _ _).1 h)
theorem ring_law (a b c : WI) (ha : a.ov = false) (hb : b.ov = false) (hc : c.ov = false) (h1 : bl a.sz ≤ 300) (h2 : bl b.sz ≤ 300) (h3 : bl c.sz ≤ 300) :
    a.add (b.add c) = (a.add b).add c ∧ a.mul (b.mul c) = (a.mul b).mul c ∧ a.mul (b.add c) = (a.mul b).add (a.mul c) ∧ (a.add b).sub b = a ∧ (a.shl 77).shl (-77) = a := by
  obtain ⟨x, rfl, lx, sx⟩ := WI.eta ha
  obtain ⟨y, rfl, ly, sy⟩ := WI.eta hb
  obtain ⟨z, rfl, lz, sz⟩ := WI.eta hc
  rw [sx] at h1; rw [sy] at h2; rw [sz] at h3
  have X := sm_of_bl h1
  have Y := sm_of_bl h2
  have Z := sm_of_bl h3
  have yz := Y.add Z
  have xy := X.add Y
  have myz := Y.mul Z
  have mxy := X.mul Y
  have mxz := X.mul Z
  have L := fun {j : Nat} {a : Int} (h : Sm j a) (hj : j ≤ 1022) => h.lim hj
  refine ⟨?_, ?_, ?_, ?_, ?_⟩
  · rw [WI.of_add ly lz, WI.of_add lx ly, WI.of_add lx (yz.lim (by decide)), WI.of_add (xy.lim (by decide)) lz, Int.add_assoc]
  · rw [WI.of_mul ly lz, WI.of_mul lx ly, WI.of_mul lx (myz.lim (by decide)), WI.of_mul (mxy.lim (by decide)) lz, Int.mul_assoc]
  · rw [WI.of_add ly lz, WI.of_mul lx (yz.lim (by decide)), WI.of_mul lx ly, WI.of_mul lx lz, WI.of_add (mxy.lim (by decide)) (mxz.lim (by decide)), Int.mul_add]
  · rw [WI.of_add lx ly, WI.of_sub (xy.lim (by decide)) ly, Int.add_sub_cancel]
  · have l1 : (x * ((2 ^ 77 : Nat) : Int)).natAbs < lim := lim_of_bl (by rw [bl_mul_pow]; split <;> omega)
    have e1 := shl_of x 77 lx (by decide)
    have e2 := shl_back x 77 lx l1
    rw [show ((77 : Nat) : Int) = 77 from rfl] at e1 e2
    rw [e1, e2]
/-! ### Order -/
theorem WI.none_of_ov {x : WI} (h : x.ov = true) : x = WI.over := by
  unfold WI.ov at h
  refine WI.ext' ?_
  rw [Option.isNone_iff_eq_none.1 h]; rfl
theorem cmp_ov (x y : WI) : (x.cmp y).2 = (!x.ov && !y.ov) := by
  unfold WI.cmp WI.ov
  cases x.v <;> cases y.v <;> rfl
theorem cmp_turn (x y : WI) : x.cmp y = (-(y.cmp x).1, (y.cmp x).2) := by
  unfold WI.cmp
  cases x.v <;> cases y.v <;> simp only [] <;> try rfl
  rename_i a b
  congr 1
  split <;> split <;> (try split) <;> omega
theorem cmp_eq (x y : WI) (h : x.cmp y = (0, true)) : x = y := by
  unfold WI.cmp at h
  cases hx : x.v <;> cases hy : y.v <;> rw [hx, hy] at h <;> simp only [] at h
  · cases h
  · cases h
  · cases h
  · rename_i a b
    have h1 := (Prod.mk.inj h).1
    have : a = b := by split at h1; cases h1; split at h1; cases h1; omega
    exact WI.ext' (by rw [hx, hy, this])
theorem cmp_goes (x y z : WI) (h1 : (x.cmp y).2 = true) (h2 : (y.cmp z).2 = true) : (x.cmp z).2 = true ∧ ((x.cmp y).1 < 0 → (y.cmp z).1 ≤ 0 → ¬ 0 ≤ (x.cmp z).1) := by
  rw [cmp_ov] at h1 h2
  simp at h1 h2
  obtain ⟨a, rfl, la, -⟩ := WI.eta h1.1
  obtain ⟨b, rfl, lb, -⟩ := WI.eta h1.2
  obtain ⟨c, rfl, lc, -⟩ := WI.eta h2.2
  rw [cmp_of _ _ la lb, cmp_of _ _ lb lc, cmp_of _ _ la lc]
  refine ⟨rfl, ?_⟩
  simp only []
  intro h3 h4
  have h5 : a < b := by
    split at h3
    · assumption
    · split at h3 <;> omega
  have h6 : b ≤ c := by
    split at h4
    · omega
    · split at h4 <;> omega
  rw [if_pos (by omega)]
  decide
theorem cmp_add (x y z : WI) (h1 : (x.cmp y).2 = true) (h2 : ((x.add z).cmp (y.add z)).2 = true) : ((x.add z).cmp (y.add z)).1 = (x.cmp y).1 := by
  rw [cmp_ov] at h1 h2
  simp at h1 h2
  obtain ⟨a, rfl, la, -⟩ := WI.eta h1.1
  obtain ⟨b, rfl, lb, -⟩ := WI.eta h1.2
  have hz : z.ov = false := by
    cases hz : z.ov with
    | false => rfl
    | true =>
      rw [WI.none_of_ov hz, WI.add_over _ _ (.inr rfl)] at h2
      exact absurd h2.1 (by decide)
  obtain ⟨c, rfl, lc, -⟩ := WI.eta hz
  rw [WI.of_add la lc, WI.of_add lb lc] at h2 ⊢
  have l1 : (a + c).natAbs < lim := by
    rcases Nat.lt_or_ge (a + c).natAbs lim with h | h
    · exact h
    · rw [WI.of_over (by omega)] at h2; exact absurd h2.1 (by decide)
  have l2 : (b + c).natAbs < lim := by
    rcases Nat.lt_or_ge (b + c).natAbs lim with h | h
    · exact h
    · rw [WI.of_over (z := b + c) (by omega)] at h2; exact absurd h2.2 (by decide)
  rw [cmp_of _ _ l1 l2, cmp_of _ _ la lb]
  simp only []
  split <;> split <;> (try split) <;> (try split) <;> (try rfl) <;> omega
/-! ### Signs -/
theorem signs_law (x y : WI) (hx : x.ov = false) (hy : y.ov = false) :
    ((x.mul y).ov = true ∨ (x.mul y).sign = x.sign * y.sign) ∧ x.neg.sign = -x.sign ∧ x.add x.neg = WI.of 0 ∧ bl x.sz = bl x.neg.sz := by
  obtain ⟨a, rfl, la, -⟩ := WI.eta hx
  obtain ⟨b, rfl, lb, -⟩ := WI.eta hy
  have ln : (-a).natAbs < lim := by rw [Int.natAbs_neg]; exact la
  refine ⟨?_, ?_, ?_, ?_⟩
  · rw [WI.of_mul la lb, WI.of_sign la, WI.of_sign lb]
    rcases Nat.lt_or_ge (a * b).natAbs lim with h | h
    · right; rw [WI.of_sign h, Int.sign_mul]
    · left; rw [WI.of_over (by omega)]; rfl
  · rw [WI.of_neg la, WI.of_sign la, WI.of_sign ln, Int.sign_neg]
  · rw [WI.of_neg la, WI.of_add la ln, Int.add_right_neg]
  · rw [WI.of_neg la, WI.of_sz la, WI.of_sz ln, Int.natAbs_neg]
end Go.Proofs.Ytilginoibhfeiaa
namespace Go.Proofs.Ytilginoibhfeiaa
open Go.RowKit

theorem lim_of64 {z : Int} (h : Sm 1000 z) : z.natAbs < lim := h.lim (by decide)
theorem sm_small (z : Int) (h : z.natAbs ≤ 2 ^ 90) : Sm 1000 z := Sm.mono (j := 90) h (by decide)
theorem of_div1 (a b : Int) (ha : a.natAbs < lim) (hb : b.natAbs < lim) (h0 : b ≠ 0) : (WI.of a).div (WI.of b) = (WI.of (a.fdiv b), 0) := by
  unfold WI.div; rw [WI.of_v ha, WI.of_v hb]
  simp only [h0, if_false]
theorem aw1 : (WI.of (-7)).div (WI.of 2) = (WI.of (-4), 0) := by
  rw [of_div1 _ _ (lim_of64 (sm_small _ (by decide))) (lim_of64 (sm_small _ (by decide))) (by decide)]
  rfl
theorem aw2 : (WI.of 1099511627776).mul (WI.of 1099511627776) = WI.of 1208925819614629174706176 := by
  rw [WI.of_mul (lim_of64 (sm_small _ (by decide))) (lim_of64 (sm_small _ (by decide)))]
  rfl
theorem aw3 : txt (WI.of (-4)).v = [45, 52] := by
  rw [WI.of_v (lim_of64 (sm_small _ (by decide)))]
  have : hex 4 = [52] := by unfold hex; rw [if_neg (by decide), hx_pos (by decide), show 4 / 16 = 0 by decide, hx_zero]; rfl
  show (if (-4 : Int) < 0 then 45 :: hex (-4 : Int).natAbs else hex (-4 : Int).natAbs) = _
  rw [if_pos (by decide), show (-4 : Int).natAbs = 4 from rfl, this]
theorem hx_ten (k : Nat) : hx (16 ^ (k + 1)) = hx (16 ^ k) ++ [48] := by
  have hp : 0 < 16 ^ k := Nat.pow_pos (by decide)
  rw [hx_pos (n := 16 ^ (k + 1)) (by rw [Nat.pow_succ]; omega), Nat.pow_succ, Nat.mul_div_cancel _ (by decide), Nat.mul_mod_left]
  rfl
theorem hx_one : hx 1 = [49] := by rw [hx_pos (by decide), show 1 / 16 = 0 by decide, hx_zero]; rfl
theorem hx_tens (k : Nat) : hx (16 ^ k) = 49 :: List.replicate k 48 := by
  induction k with
  | zero => exact hx_one
  | succ k ih => rw [hx_ten, ih, List.replicate_succ']; rfl
theorem aw4 : txt (WI.of 1208925819614629174706176).v = 49 :: List.replicate 20 48 := by
  rw [WI.of_v (lim_of64 (sm_small _ (by decide)))]
  show (if (1208925819614629174706176 : Int) < 0 then 45 :: hex (1208925819614629174706176 : Int).natAbs else hex (1208925819614629174706176 : Int).natAbs) = _
  rw [if_neg (by decide)]
  unfold hex
  rw [if_neg (by decide), show (1208925819614629174706176 : Int).natAbs = 16 ^ 20 from rfl]
  exact hx_tens 20
set_option maxRecDepth 100000 in
set_option maxHeartbeats 1000000 in
theorem awake1_c (w : World) : Calls Try.prog 12 #[] w fun e w' => e = .returned (.bool true) ∧ Below w.heap.size w w' := by
  have A1 := Lib.hid aw1
  have A2 := Lib.hid aw2
  have A3 : Hid (str (txt (WI.of (-4)).v) = .string ⟨#[45, 52]⟩) := by rw [aw3]; exact rfl
  have A4 : Hid (str (txt (WI.of 1208925819614629174706176).v) = .string ⟨#[49, 48, 48, 48, 48, 48, 48, 48, 48, 48, 48, 48, 48, 48, 48, 48, 48, 48, 48, 48, 48]⟩) := by rw [aw4]; exact rfl
  go_enter Try.func12, Try.ntmps12
  go_wp2_with fail
  refine (of_c (-7) (by decide) (by decide) _).mono ?_; rintro e w1 ⟨rfl, hb1⟩
  go_wp2_with fail
  refine (of_c 2 (by decide) (by decide) _).mono ?_; rintro e w2 ⟨rfl, hb2⟩
  go_wp2_with fail
  refine (div_I _ _ _).mono ?_; rintro e w3 ⟨rfl, hb3⟩
  rw [A1.out]
  go_wp2_with fail
  refine (text_I _ _).mono ?_; rintro e w4 ⟨rfl, hb4⟩
  rw [A3.out]
  go_wp2_with fail
  refine (of_c 1099511627776 (by decide) (by decide) _).mono ?_; rintro e w5 ⟨rfl, hb5⟩
  go_wp2_with fail
  refine (of_c 1099511627776 (by decide) (by decide) _).mono ?_; rintro e w6 ⟨rfl, hb6⟩
  go_wp2_with fail
  refine (mul_I _ _ _).mono ?_; rintro e w7 ⟨rfl, hb7⟩
  rw [A2.out]
  go_wp2_with fail
  refine (text_I _ _).mono ?_; rintro e w8 ⟨rfl, hb8⟩
  rw [A4.out]
  go_wp2_with fail
  go_ret
  exact ⟨rfl, by
    have l3 : Below w.heap.size w w3 := (hb1.trans (hb2.mono hb1.size)).trans (hb3.mono (Nat.le_trans hb1.size hb2.size))
    have l4 := ((l3.alloc l3.size (.cells (WI.of (-4)).cells 29)).trans (hb4.mono (by simp; exact Nat.le_succ_of_le l3.size)))
    exact (((l4.trans (hb5.mono l4.size)).trans (hb6.mono (Nat.le_trans l4.size hb5.size))).trans (hb7.mono (Nat.le_trans l4.size (Nat.le_trans hb5.size hb6.size)))).trans (hb8.mono (Nat.le_trans l4.size (Nat.le_trans hb5.size (Nat.le_trans hb6.size hb7.size))))⟩
end Go.Proofs.Ytilginoibhfeiaa
