/- The walk of alidadelaw8.dist. -/
import Derived.Test.YtfohihjeemmedaaV7
import Derived.BigRegion
namespace Go.Proofs.Ytfohihjeemmedaa
open Go.RowKit

theorem rtI_unique {n d : Int} (h0 : 0 ≤ d) (h1 : d * d ≤ n) (h2 : n < (d + 1) * (d + 1)) : rtI n = d := by
  obtain ⟨k, rfl⟩ : ∃ k : Nat, d = k := ⟨d.toNat, by omega⟩
  have q := int_sq_nonneg (k : Int)
  have e1 : ((k * k : Nat) : Int) = (k : Int) * k := by simp
  have e2 : (((k + 1) * (k + 1) : Nat) : Int) = ((k : Int) + 1) * ((k : Int) + 1) := by simp
  unfold rtI
  rw [rt_unique (n := n.toNat) (r := k) (by omega) (by omega)]
def bOf : Nat → Int | 0 => 0 | j + 1 => 2 ^ j
theorem bOf_succ (j : Nat) : 0 < bOf (j + 1) := by unfold bOf; exact Int.pow_pos (by decide)
theorem bOf_half (j : Nat) : bOf (j + 1) / 2 = bOf j := by
  cases j with
  | zero => rfl
  | succ j => show (2 : Int) ^ (j + 1) / 2 = 2 ^ j; rw [Int.pow_succ]; omega
theorem bOf_le (j : Nat) (h : j ≤ 31) : bOf j ≤ 1073741824 := by
  match j, h with
  | 0, _ => decide
  | j + 1, h =>
    have : (2 : Nat) ^ j ≤ 2 ^ 30 := pow2_le j 30 (by omega)
    show (2 : Int) ^ j ≤ _
    have e : ((2 ^ j : Nat) : Int) = (2 : Int) ^ j := by simp
    omega
set_option maxRecDepth 100000 in
set_option maxHeartbeats 4000000 in
theorem dist_c (px py qx qy : Int) (hx : -33554432 ≤ px - qx ∧ px - qx ≤ 33554432) (hy : -33554432 ≤ py - qy ∧ py - qy ≤ 33554432) (w : World) :
    Calls Try.prog 15 #[ptV px py, ptV qx qy] w fun e w' => e = .returned (.int .i64 (rtI ((px - qx) * (px - qx) + (py - qy) * (py - qy)))) ∧ Below w.heap.size w w' := by
  obtain ⟨dx, hdx⟩ : ∃ z, px - qx = z := ⟨_, rfl⟩
  obtain ⟨dy, hdy⟩ : ∃ z, py - qy = z := ⟨_, rfl⟩
  rw [hdx] at hx; rw [hdy] at hy
  have q1 := sqb dx 33554432 hx.1 hx.2
  have q2 := sqb dy 33554432 hy.1 hy.2
  obtain ⟨P, hP⟩ : ∃ z, dx * dx = z := ⟨_, rfl⟩
  obtain ⟨Q, hQ⟩ : ∃ z, dy * dy = z := ⟨_, rfl⟩
  obtain ⟨n, hn⟩ : ∃ z, P + Q = z := ⟨_, rfl⟩
  rw [hP] at q1; rw [hQ] at q2
  rw [hdx, hdy, hP, hQ, hn]
  have n0 : 0 ≤ n ∧ n ≤ 2251799813685248 := by omega
  have w1 : wrap64 (px - qx) = dx := by rw [hdx]; unfold wrap64; omega
  have w2 : wrap64 (py - qy) = dy := by rw [hdy]; unfold wrap64; omega
  have w1' : IntKind.i64.wrap (px - qx) = dx := by rw [IntKind.wrap_i64, hdx]; omega
  have w2' : IntKind.i64.wrap (py - qy) = dy := by rw [IntKind.wrap_i64, hdy]; omega
  have w3 : wrap64 (dx * dx) = P := by rw [hP]; unfold wrap64; omega
  have w4 : wrap64 (dy * dy) = Q := by rw [hQ]; unfold wrap64; omega
  have w5 : wrap64 (P + Q) = n := by rw [hn]; unfold wrap64; omega
  obtain ⟨n01, n02⟩ := n0
  clear hx hy q1 q2 hP hQ hn hdx hdy
  go_enter Try.func15, Try.ntmps15
  go_wp2_with fail
  go_region
  go_wp2_with fail
  simp only [w1, w2, w3, w4, w5]
  clear w1 w2 w1' w2' w3 w4 w5
  go_loopw [8, 9] (fun td tb wr => ∃ (j : Nat) (d : Int), j ≤ 31 ∧ td = .int .i64 d ∧ tb = .int .i64 (bOf j) ∧ 0 ≤ d ∧ d * d ≤ n ∧ n < (d + 2 ^ j) * (d + 2 ^ j) ∧ Hid (Below w.heap.size w wr)) (fun _ tb _ => (intOf tb).toNat)
  case atStart =>
    refine ⟨31, 0, by decide, rfl, rfl, by omega, by omega, by omega, (show Below _ _ _ from (by repeat (first | with_reducible exact Below.refl _ _ | with_reducible exact Below_of_hid (by assumption) | with_reducible refine Below.drew ?_ | with_reducible refine below_drewN ?_ _ | (with_reducible refine Below_putRow ?_ ?hB _ _; case hB => (first | omega | (simp; done) | (simp; omega))) | (with_reducible refine Below.alloc ?_ ?hB _; case hB => (first | omega | (simp; done) | (simp; omega))) | (with_reducible refine Below.setCell ?_ ?hB _; case hB => (first | omega | (simp; done) | (simp; omega))) | (with_reducible refine Below.trans ?_ (Below.mono (by assumption) ?hB); case hB => (first | omega | (simp; done) | (simp; omega))))))⟩
  case round =>
    obtain ⟨j, d, hj, rfl, rfl, d0, d1, d2, HB⟩ := hrel
    cases j with
    | zero =>
      have ed : Hid (rtI n = d) := rtI_unique d0 d1 d2
      have hb := HB.out
      have s5 := hb.size
      go_wp2_with fail
      go_ret
      exact ⟨by rw [ed.out]; rfl, hb⟩
    | succ j =>
      have b0 := bOf_succ j
      have bl := bOf_le (j + 1) hj
      have bh := bOf_half j
      have be : Hid (bOf (j + 1) = 2 ^ j) := rfl
      obtain ⟨b, hb⟩ : ∃ b, bOf (j + 1) = b := ⟨_, rfl⟩
      rw [hb] at b0 bl bh be ⊢
      have db : d ≤ 47453133 := le_of_sq (b := 47453133) (by decide) (by omega)
      obtain ⟨s, hs⟩ : ∃ s, d + b = s := ⟨_, rfl⟩
      have sb : s * s ≤ 1200000000 * 1200000000 := Int.mul_le_mul (by omega) (by omega) (by omega) (by decide)
      obtain ⟨S, hS⟩ : ∃ z, s * s = z := ⟨_, rfl⟩
      rw [hS] at sb
      have s0 : 0 ≤ S := by rw [← hS]; exact int_sq_nonneg s
      have wr1 : wrap64 (d + b) = s := by rw [hs]; unfold wrap64; omega
      have wr2 : wrap64 (s * s) = S := by rw [hS]; unfold wrap64; omega
      by_cases hc : S ≤ n
      · go_wp2_with fail
        refine ⟨⟨j, s, by omega, rfl, by rw [← bh], by omega, by omega, ?_, HB⟩, by simp [intOf]; omega⟩
        have e : d + 2 ^ (j + 1) = s + 2 ^ j := by rw [← hs, be.out, Int.pow_succ]; omega
        rw [← e]; exact d2
      · go_wp2_with fail
        refine ⟨⟨j, d, by omega, rfl, by rw [← bh], d0, d1, ?_, HB⟩, by simp [intOf]; omega⟩
        have e : d + 2 ^ j = s := by rw [← hs, be.out]
        rw [e, hS]; omega
end Go.Proofs.Ytfohihjeemmedaa
