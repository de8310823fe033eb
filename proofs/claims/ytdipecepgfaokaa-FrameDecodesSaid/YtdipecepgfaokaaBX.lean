/- The walks of package wide's up, down: shifts of sizes. The walks of math/bits' LeadingZeros64, Div64. The walk of package wide's step: one digit of a quotient. The walk of package wide's step: one digit of a quotient. The walk of package wide's divide: the cases of a smaller number, and of one word. The walk of package wide's divide: the general case; Div. The walk of package wide's divide: the general case. The walks of package wide's Div, Cmp, Int64. -/
import Derived.Test.YtdipecepgfaokaaBW
import Derived.Test.YtdipecepgfaokaaBN
import Derived.Laws.Bits64b
import Derived.Deep.CutBlock
import Derived.Lib.QuietBelow
import Derived.BigRegion
import Derived.Laws.CopyOwn
namespace Go.Proofs.Ytdipecepgfaokaa
set_option linter.unusedSimpArgs false
set_option linter.unusedVariables false
open Go.RowKit

theorem shl_u64 (x r : Nat) : IntKind.u64.wrap ((x : Int) * 2 ^ r) = ((x * 2 ^ r % 18446744073709551616 : Nat) : Int) := by
  have e : ((x * 2 ^ r : Nat) : Int) = (x : Int) * 2 ^ r := by rw [Int.natCast_mul, Int.natCast_pow]; rfl
  rw [IntKind.wrap_u64, ← e]; omega
theorem blk_down {w : World} {b n M i v : Nat} {t : TypeId} (h : Blk w b (rowW n (M / 2 ^ (64 * (i + 1)) * 2 ^ (64 * (i + 1)))) t) (hv : v = wdn M i) :
    Blk (w.setCell ⟨b, i, none⟩ (.int .u64 (v : Int))) b (rowW n (M / 2 ^ (64 * i) * 2 ^ (64 * i))) t := by
  subst hv; rw [← setw_down, ← rowW_set _ _ _ _ (wdn_lt M i)]; exact h.setCell_same _ _
theorem blk_down2 {w : World} {b n M i v : Nat} {t : TypeId} {x : Value} (h : Blk w b (rowW n (M / 2 ^ (64 * (i + 1)) * 2 ^ (64 * (i + 1)))) t) (hv : v = wdn M i) :
    Blk ((w.setCell ⟨b, i, none⟩ x).setCell ⟨b, i, none⟩ (.int .u64 (v : Int))) b (rowW n (M / 2 ^ (64 * i) * 2 ^ (64 * i))) t := by
  subst hv; rw [← setw_down, ← rowW_set _ _ _ _ (wdn_lt M i)]
  have := (h.setCell_same i x).setCell_same i (.int .u64 (wdn M i : Int))
  exact this.of_eq (by apply Array.ext_getElem?; intro j; by_cases hj : i = j <;> simp [hj, Array.getElem?_setIfInBounds])
theorem or_u64 (a c g : Nat) (x : Int) (hx : x = (c : Int)) (ha : a < 18446744073709551616) (hc : c < 18446744073709551616) : bits .or .u64 (a : Int) (x / 2 ^ g) = ((a ||| (c / 2 ^ g) : Nat) : Int) := by
  have e : x / 2 ^ g = ((c / 2 ^ g : Nat) : Int) := by rw [hx, Int.natCast_ediv, Int.natCast_pow]; rfl
  rw [e, bits_or_u64_nat _ _ ha (Nat.lt_of_le_of_lt (Nat.div_le_self _ _) hc)]
theorem blk_fill {w : World} {b n M f v : Nat} {t : TypeId} (h : Blk w b (rowW n (M % 2 ^ (64 * f))) t) (hv : v = wdn M f) :
    Blk (w.setCell ⟨b, f, none⟩ (.int .u64 (v : Int))) b (rowW n (M % 2 ^ (64 * (f + 1)))) t := by
  subst hv; rw [← rowW_fill]; exact h.setCell_same _ _
theorem blk_fill2 {w : World} {b n M f v : Nat} {t : TypeId} {x : Value} (h : Blk w b (rowW n (M % 2 ^ (64 * f))) t) (hv : v = wdn M f) :
    Blk ((w.setCell ⟨b, f, none⟩ x).setCell ⟨b, f, none⟩ (.int .u64 (v : Int))) b (rowW n (M % 2 ^ (64 * (f + 1)))) t := by
  subst hv; rw [← rowW_fill]
  have := (h.setCell_same f x).setCell_same f (.int .u64 (wd M f))
  exact this.of_eq (by apply Array.ext_getElem?; intro j; by_cases hj : f = j <;> simp [hj, Array.getElem?_setIfInBounds])
theorem mod64_lt (x : Nat) : x % 18446744073709551616 < 18446744073709551616 := by omega
theorem shr_u64 (x r : Nat) (y : Int) (hy : y = (x : Int)) : y / 2 ^ r = ((x / 2 ^ r : Nat) : Int) := by
  rw [hy, Int.natCast_ediv, Int.natCast_pow]; rfl
theorem orl_u64 (a c g : Nat) (x : Int) (hx : x = (c : Int)) (ha : a < 18446744073709551616) : bits .or .u64 (a : Int) (IntKind.u64.wrap (x * 2 ^ g)) = ((a ||| (c * 2 ^ g % 18446744073709551616) : Nat) : Int) := by
  rw [hx, shl_u64, bits_or_u64_nat _ _ ha (mod64_lt _)]
/-- Is something lost by a shift of k bits? -/
def lost (N k : Nat) : Bool := decide (N % 2 ^ k ≠ 0)
/-- Is something left over below word m? -/
def left? (N m : Nat) : Bool := decide (N % 2 ^ (64 * m) ≠ 0)
theorem left_succ (N m : Nat) : left? N (m + 1) = (left? N m || (wd N m != 0)) := by
  unfold left?
  have h : (wd N m != 0) = decide (wdn N m ≠ 0) := by unfold wd; by_cases h : wdn N m = 0 <;> simp [h]
  rw [h, Bool.eq_iff_iff]
  simp only [decide_eq_true_eq, Bool.or_eq_true]
  exact rest_bit N m
end Go.Proofs.Ytdipecepgfaokaa
namespace Go.Proofs.Ytdipecepgfaokaa
open Go.RowKit

theorem and_mask (x : Nat) (hx : x < 18446744073709551616) : bits .and .u64 (x : Int) 4294967295 = ((x % 4294967296 : Nat) : Int) := by
  have := bits_and_u64_nat x 4294967295 hx (by decide)
  rw [show (4294967295 : Nat) = 2 ^ 32 - 1 from rfl, Nat.and_two_pow_sub_one_eq_mod] at this
  exact this
theorem split32 (X L : Nat) : X * 18446744073709551616 + (L / 4294967296 * 4294967296 + L % 4294967296) = X * 18446744073709551616 + L := by
  rw [Nat.mul_comm (L / 4294967296), Nat.div_add_mod]
theorem wrap_nat (x : Nat) (hx : x < 18446744073709551616) : IntKind.u64.wrap (x : Int) = (x : Int) := by rw [IntKind.wrap_u64]; omega
theorem nat_tdiv (x a : Nat) : (x : Int).tdiv (a : Int) = ((x / a : Nat) : Int) := by
  rw [Int.tdiv_eq_ediv_of_nonneg (by omega), Int.natCast_ediv]
theorem wrap_mul (x y z : Nat) (h : z = x * y) (hz : z < 18446744073709551616) : IntKind.u64.wrap ((x : Int) * (y : Int)) = (z : Int) := by
  rw [← Int.natCast_mul, ← h]; exact wrap_nat z hz
end Go.Proofs.Ytdipecepgfaokaa
namespace Go.Proofs.Ytdipecepgfaokaa
open Go.RowKit

end Go.Proofs.Ytdipecepgfaokaa
namespace Go.Proofs.Ytdipecepgfaokaa
open Go.RowKit

/-- What the trial digit keeps. -/
def Dig0 (U W v1 D l u01 : Nat) : Prop := D * v1 + l = u01 ∧ U / W ≤ D ∧ D < 18446744073709551616
theorem below_of_regrown' {w w' : World} (h : ∃ p : Regrown, w' = Go.Sort.grow (redrawn w p.d) p.os) : Below w.heap.size w w' := by
  obtain ⟨⟨d, os⟩, rfl⟩ := h; exact below_regrown w d os
theorem split_word (x : Nat) : x / 18446744073709551616 * 18446744073709551616 + x % 18446744073709551616 = x := by rw [Nat.mul_comm]; exact Nat.div_add_mod _ _
theorem ms_digit (x y c : Nat) (hx : x < 18446744073709551616) (hy : y < 18446744073709551616) (hc : c < 18446744073709551616) :
    ∃ H L l c1 c' : Nat, H = x * y / 18446744073709551616 ∧ L = x * y % 18446744073709551616 ∧ L < 18446744073709551616 ∧ l = (L + c) % 18446744073709551616 ∧ c1 = (L + c) / 18446744073709551616 ∧ c' = H + c1 ∧ c' < 18446744073709551616 ∧ l < 18446744073709551616 ∧ x * y + c = c' * 18446744073709551616 + l := by
  refine ⟨_, _, _, _, _, rfl, rfl, Nat.mod_lt _ (by decide), rfl, rfl, rfl, ?_, Nat.mod_lt _ (by decide), ?_⟩
  all_goals
    have hxy : x * y ≤ 18446744073709551615 * 18446744073709551615 := Nat.mul_le_mul (by omega) (by omega)
    generalize x * y = p at *
    omega
theorem sub64_v (X Y b t b' : Nat) (hX : X < 18446744073709551616) (hY : Y < 18446744073709551616) (hb : b ≤ 1) (hb' : b' = if X < Y + b then 1 else 0) (ht : t + Y + b = X + b' * 18446744073709551616) (w : World) :
    (callFunc 71 #[.int .u64 (X : Int), .int .u64 (Y : Int), .int .u64 (b : Int)]).run Try.prog w = .ok (.value (.tuple #[.int .u64 (t : Int), .int .u64 (b' : Int)])) w := by
  rw [sub64 X Y b (by omega) (by omega) (by omega) (by omega) (by omega)]
  have e1 : (X : Int) - Y - b = (t : Int) - b' * 18446744073709551616 := by omega
  have e2 : ((X : Int) - Y - b) % 18446744073709551616 = (t : Int) := by
    have : b' ≤ 1 := by rw [hb']; split <;> omega
    have ht2 : t < 18446744073709551616 := by
      rw [hb'] at ht; split at ht <;> omega
    omega
  have e3 : (if (X : Int) < (Y : Int) + (b : Int) then (1 : Int) else 0) = (b' : Int) := by
    rw [hb']; split <;> split <;> omega
  rw [e2, e3]
theorem sub_step (X Y b : Nat) (hX : X < 18446744073709551616) (hY : Y < 18446744073709551616) (hb : b ≤ 1) :
    ∃ t b' : Nat, b' = (if X < Y + b then 1 else 0) ∧ b' ≤ 1 ∧ t < 18446744073709551616 ∧ t + Y + b = X + b' * 18446744073709551616 := by
  by_cases h : X < Y + b
  · exact ⟨X + 18446744073709551616 - Y - b, 1, by rw [if_pos h], by omega, by omega, by omega⟩
  · exact ⟨X - Y - b, 0, by rw [if_neg h], by omega, by omega, by omega⟩
theorem add64_w (X Y c t c' : Nat) (hX : X < 18446744073709551616) (hY : Y < 18446744073709551616) (hc : c ≤ 1) (ht : t = (X + Y + c) % 18446744073709551616) (hc' : c' = (X + Y + c) / 18446744073709551616) (w : World) :
    (callFunc 62 #[.int .u64 (X : Int), .int .u64 (Y : Int), .int .u64 (c : Int)]).run Try.prog w = .ok (.value (.tuple #[.int .u64 (t : Int), .int .u64 (c' : Int)])) w := by
  rw [add64 X Y c (by omega) (by omega) (by omega) (by omega) (by omega) (by omega), ht, hc']
  congr 5 <;> omega
end Go.Proofs.Ytdipecepgfaokaa
namespace Go.Proofs.Ytdipecepgfaokaa
open Go.RowKit

@[go_sem] theorem put?_putRow_other {w : World} (g o : Nat) (cs : Array Value) (b o' : Nat) (cs' : Array Value) (h : b ≠ g) (hf : w.fits b (o' + cs'.size) = true) (h1 : ones cs' = true) :
    (w.putRow g o cs).put? b o' cs' = some ((w.putRow g o cs).putRow b o' cs') :=
  put?_fits (by rw [fits_putRow _ _ _ _ _ h]; exact hf) h1
/-- The end of a walk whose two results are rows of cells. -/
theorem bodyPost_row2 {P : Program} {fn : Func} {R : Ending → World → Prop} {a : Act} {w : World} {p u : Tmp} {ty ty' : TypeId} {g g' : Nat} (n n' : Nat) (cs cs' : Array Value) {d d' : TypeDesc}
    (h : fn.results = #[.cell p ty, .cell u ty']) (hde : a.defers = []) (hp : a.tmps.getD p undef = .pointer (some ⟨g, 0, none⟩)) (hp' : a.tmps.getD u undef = .pointer (some ⟨g', 0, none⟩))
    (hu : P.underlying ty = some d) (hd : d.isRow = true) (hi : (P.info? ty).map (·.size) = some n) (hu' : P.underlying ty' = some d') (hd' : d'.isRow = true) (hi' : (P.info? ty').map (·.size) = some n')
    (hg : w.row? g 0 n = some cs) (hg' : w.row? g' 0 n' = some cs') (hR : R (.returned (.tuple #[.agg cs, .agg cs'])) w) :
    bodyPost P fn R .ret a w := by
  refine bodyPost_ret (v := .tuple #[.agg cs, .agg cs']) ?_ hde hR
  have e1 := run_loadVar_row? (P := P) w g 0 n ty cs d hu hd hi hg
  have e2 := run_loadVar_row? (P := P) w g' 0 n' ty' cs' d' hu' hd' hi' hg'
  have hq : a.tmps[p]?.getD undef = .pointer (some ⟨g, 0, none⟩) := by simpa using hp
  have hq' : a.tmps[u]?.getD undef = .pointer (some ⟨g', 0, none⟩) := by simpa using hp'
  simp [results, h, hq, hq', asAddr, e1, e2]
theorem cmpN_ge {N M : Nat} (h : M ≤ N) : (0 : Int) ≤ cmpN N M := by unfold cmpN; split <;> (try split) <;> omega
theorem Blk.fits {w : World} {b : Nat} {c : Array Value} {t : TypeId} (h : Blk w b c t) (n : Nat) (hn : n ≤ c.size) : w.fits b n = true := by
  unfold World.fits; unfold Blk at h; rw [h]; simp [hn]
end Go.Proofs.Ytdipecepgfaokaa
namespace Go.Proofs.Ytdipecepgfaokaa
open Go.RowKit

/-! ### A number shifted up, word by word -/
theorem fill_lt (N i s : Nat) : N % 2 ^ (64 * i) * 2 ^ s / 2 ^ (64 * i) < 2 ^ s := by
  rw [Nat.div_lt_iff_lt_mul (Nat.two_pow_pos _), Nat.mul_comm]
  exact Nat.mul_lt_mul_of_pos_left (Nat.mod_lt _ (Nat.two_pow_pos _)) (Nat.two_pow_pos _)
theorem fill_or (N i s : Nat) (hs : s ≤ 64) : (wdn (N % 2 ^ (64 * i) * 2 ^ s) i ||| (wdn N i * 2 ^ s % 18446744073709551616)) = wdn (N % 2 ^ (64 * i) * 2 ^ s) i + wdn N i * 2 ^ s % 18446744073709551616 ∧
    wdn (N % 2 ^ (64 * i) * 2 ^ s) i + wdn N i * 2 ^ s % 18446744073709551616 < 18446744073709551616 ∧ N % 2 ^ (64 * i) * 2 ^ s / 2 ^ (64 * i) + wdn N i * 2 ^ s % 18446744073709551616 < 18446744073709551616 := by
  have hp : (18446744073709551616 : Nat) = 2 ^ (64 - s) * 2 ^ s := by rw [← Nat.pow_add, show (64 - s) + s = 64 by omega]
  have h1 := fill_lt N i s
  have h2 : wdn (N % 2 ^ (64 * i) * 2 ^ s) i ≤ N % 2 ^ (64 * i) * 2 ^ s / 2 ^ (64 * i) := Nat.mod_le _ _
  have h3 : wdn N i * 2 ^ s % 18446744073709551616 = (wdn N i % 2 ^ (64 - s)) * 2 ^ s := by
    rw [hp, Nat.mul_mod_mul_right]
  have h4 : (wdn N i % 2 ^ (64 - s)) * 2 ^ s + 2 ^ s ≤ 18446744073709551616 := by
    have := Nat.mod_lt (wdn N i) (Nat.two_pow_pos (64 - s))
    calc (wdn N i % 2 ^ (64 - s)) * 2 ^ s + 2 ^ s = (wdn N i % 2 ^ (64 - s) + 1) * 2 ^ s := by rw [Nat.add_mul, Nat.one_mul]
      _ ≤ 2 ^ (64 - s) * 2 ^ s := Nat.mul_le_mul_right _ this
      _ = 18446744073709551616 := hp.symm
  rw [h3]
  refine ⟨?_, by omega, by omega⟩
  rw [Nat.or_comm, or_parts _ _ _ (Nat.lt_of_le_of_lt h2 h1), Nat.add_comm]
theorem fill_1 (N i s v : Nat) (hv : v = wdn (N % 2 ^ (64 * i) * 2 ^ s) i + wdn N i * 2 ^ s % 18446744073709551616) :
    setw (N % 2 ^ (64 * i) * 2 ^ s) i v = N % 2 ^ (64 * i) * 2 ^ s + wdn N i * 2 ^ s % 18446744073709551616 * 2 ^ (64 * i) := setw_add _ _ _ _ hv.symm
theorem fill_aux (a b c P B : Nat) : c + b * P + a * (P * B) = c + (B * a + b) * P := by grind
theorem fill_2 (N i s : Nat) (hs : s ≤ 64) : setw (N % 2 ^ (64 * i) * 2 ^ s + wdn N i * 2 ^ s % 18446744073709551616 * 2 ^ (64 * i)) (i + 1) (wdn N i / 2 ^ (64 - s)) = N % 2 ^ (64 * (i + 1)) * 2 ^ s := by
  have h3 := (fill_or N i s hs).2.2
  have hx : N % 2 ^ (64 * i) * 2 ^ s + wdn N i * 2 ^ s % 18446744073709551616 * 2 ^ (64 * i) < 2 ^ (64 * (i + 1)) := by
    rw [pow_succ64, Nat.mul_comm (2 ^ (64 * i)) 18446744073709551616, ← Nat.div_lt_iff_lt_mul (Nat.two_pow_pos _), Nat.add_mul_div_right _ _ (Nat.two_pow_pos _)]
    exact h3
  have h0 : wdn (N % 2 ^ (64 * i) * 2 ^ s + wdn N i * 2 ^ s % 18446744073709551616 * 2 ^ (64 * i)) (i + 1) + wdn N i / 2 ^ (64 - s) = wdn N i / 2 ^ (64 - s) := by
    rw [wdn_eq_zero_of_lt _ (i + 1) (i + 1) hx (Nat.le_refl _), Nat.zero_add]
  rw [setw_add _ _ _ _ h0, cut_succ N i, Nat.add_mul, pow_succ64]
  have hp : (18446744073709551616 : Nat) = 2 ^ s * 2 ^ (64 - s) := by rw [← Nat.pow_add, show s + (64 - s) = 64 by omega]
  have h4 : wdn N i * 2 ^ s / 18446744073709551616 = wdn N i / 2 ^ (64 - s) := by
    conv => lhs; rw [hp]
    rw [Nat.mul_comm (wdn N i), Nat.mul_div_mul_left _ _ (Nat.two_pow_pos _)]
  have h5 := Nat.div_add_mod (wdn N i * 2 ^ s) 18446744073709551616
  rw [h4] at h5
  have h6 : 2 ^ (64 * i) * wdn N i * 2 ^ s = (wdn N i * 2 ^ s) * 2 ^ (64 * i) := by rw [Nat.mul_comm (2 ^ (64 * i)), Nat.mul_right_comm]
  have h7 : wdn N i * 2 ^ s * 2 ^ (64 * i) = (18446744073709551616 * (wdn N i / 2 ^ (64 - s)) + wdn N i * 2 ^ s % 18446744073709551616) * 2 ^ (64 * i) := by rw [h5]
  rw [h6, h7]
  exact fill_aux _ _ _ _ _
theorem fill_s0 (N i s : Nat) (hs : s = 0) : N % 2 ^ (64 * i) * 2 ^ s + wdn N i * 2 ^ s % 18446744073709551616 * 2 ^ (64 * i) = N % 2 ^ (64 * (i + 1)) * 2 ^ s := by
  subst hs
  rw [Nat.pow_zero, Nat.mul_one, Nat.mul_one, Nat.mul_one, Nat.mod_eq_of_lt (wdn_lt N i), cut_succ, Nat.mul_comm (wdn N i)]
theorem rowW_zero17 : rowW 17 0 = #[.int .u64 0, .int .u64 0, .int .u64 0, .int .u64 0, .int .u64 0, .int .u64 0, .int .u64 0, .int .u64 0, .int .u64 0, .int .u64 0, .int .u64 0, .int .u64 0, .int .u64 0, .int .u64 0, .int .u64 0, .int .u64 0, .int .u64 0] := by
  simp [rowW, Array.ofFn_succ, wd_zero]
end Go.Proofs.Ytdipecepgfaokaa
namespace Go.Proofs.Ytdipecepgfaokaa
open Go.RowKit

end Go.Proofs.Ytdipecepgfaokaa
namespace Go.Proofs.Ytdipecepgfaokaa
open Go.RowKit

/-- A number by another one, down: the quotient, why there is none. -/
def WI.div (x y : WI) : WI × Int :=
  match x.v, y.v with
  | some a, some b => if b = 0 then (WI.of 0, 1) else (WI.of (a.fdiv b), 0)
  | _, _ => (WI.of 0, 2)
theorem WI.of_0 : (WI.of 0).cells = cellsI false false 0 := by
  have := WI.of_sgn (n := false) (N := 0) (by rw [bl_zero]; omega)
  exact this
theorem WI.div_over (x y : WI) (h : x.ov = true ∨ y.ov = true) : x.div y = (WI.of 0, 2) := by
  unfold WI.div; unfold WI.ov at h
  cases hx : x.v <;> cases hy : y.v <;> simp_all
theorem WI.div_zero (x y : WI) (hx : x.ov = false) (hy : y.ov = false) (h : y.sz = 0) : x.div y = (WI.of 0, 1) := by
  unfold WI.div; rw [WI.some_of_ov hx, WI.some_of_ov hy, h]; simp [sgn]
theorem fdiv_nat (a b : Nat) : (a : Int).fdiv (b : Int) = ((a / b : Nat) : Int) := by
  rw [Int.fdiv_eq_ediv_of_nonneg _ (by omega), Int.natCast_ediv]
theorem sgn_fdiv (n m : Bool) (N M : Nat) (hM : M ≠ 0) : (sgn n N).fdiv (sgn m M) = sgn (n != m) (if (n != m) && decide (N % M ≠ 0) then N / M + 1 else N / M) := by
  have hdm := Nat.div_add_mod N M
  have hlt := Nat.mod_lt N (Nat.pos_of_ne_zero hM)
  have key : ∀ q : Nat, q = (if decide (N % M ≠ 0) then N / M + 1 else N / M) → (-(N : Int)).fdiv (M : Int) = -(q : Int) := by
    intro q hq
    rw [Int.fdiv_eq_ediv_of_nonneg _ (by omega)]
    by_cases h0 : N % M = 0
    · have hq' : q = N / M := by rw [hq]; simp [h0]
      rw [hq']
      have e : -(N : Int) = -((N / M : Nat) : Int) * (M : Int) := by
        rw [h0, Nat.add_zero] at hdm
        conv => lhs; rw [← hdm]
        rw [Int.natCast_mul, Int.neg_mul, Int.mul_comm]
      rw [e, Int.mul_ediv_cancel _ (by omega)]
    · have hq' : q = N / M + 1 := by rw [hq]; simp [h0]
      rw [hq']
      have e : -(N : Int) = ((M - N % M : Nat) : Int) + (-((N / M + 1 : Nat) : Int)) * (M : Int) := by
        have e1 : (N : Int) = (M : Int) * ((N / M : Nat) : Int) + ((N % M : Nat) : Int) := by rw [← Int.natCast_mul, ← Int.natCast_add, hdm]
        rw [Int.ofNat_sub (Nat.le_of_lt hlt)]
        conv => lhs; rw [e1]
        rw [Int.natCast_add]
        grind
      rw [e, Int.add_mul_ediv_right _ _ (by omega), Int.ediv_eq_zero_of_lt (by omega) (by omega)]
      omega
  cases n <;> cases m <;> simp only [sgn, Bool.false_eq_true, if_true, if_false, bne_self_eq_false, Bool.false_and, Bool.true_bne, Bool.false_bne, Bool.not_false, Bool.true_and]
  · exact fdiv_nat N M
  · rw [show (N : Int).fdiv (-(M : Int)) = (-(N : Int)).fdiv (M : Int) by rw [← Int.neg_fdiv_neg, Int.neg_neg]]
    exact key _ rfl
  · exact key _ rfl
  · rw [Int.neg_fdiv_neg]; exact fdiv_nat N M
theorem WI.div_some (x y : WI) (hx : x.ov = false) (hy : y.ov = false) (h : y.sz ≠ 0) :
    x.div y = (WI.of (sgn (x.ng != y.ng) (if (x.ng != y.ng) && decide (x.sz % y.sz ≠ 0) then x.sz / y.sz + 1 else x.sz / y.sz)), 0) := by
  unfold WI.div; rw [WI.some_of_ov hx, WI.some_of_ov hy]
  have h0 : ¬ sgn y.ng y.sz = 0 := by unfold sgn; split <;> omega
  simp only [h0, if_false]
  rw [sgn_fdiv _ _ _ _ h]
end Go.Proofs.Ytdipecepgfaokaa
