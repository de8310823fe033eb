/- What the laws of grow say of two balls (awake); the walk of GrowTurns. The walks of GrowAtLeast, GrowNothing. The walks of GrowHolds, GrowBalls. -/
import Derived.Test.YtfohihjeemmedaaE5
import Derived.Test.YtfohihjeemmedaaQb
namespace Go.Proofs.Ytfohihjeemmedaa
open Go.RowKit

theorem trace_v (x y a b d t : Int) (h : El.tr ⟨x, y, a, b, d⟩ = t) (w : World) :
    Calls Try.prog 13 #[elC x y a b d] w fun e w' => e = .returned (.int .i64 t) ∧ Below w.heap.size w w' := by
  subst h; exact trace_c x y a b d w

theorem rad_ten : El.rad ⟨0, 0, 100, 0, 100⟩ = 15 := by
  have h : (El.tr ⟨0, 0, 100, 0, 100⟩).toNat = 200 := by decide
  unfold El.rad
  rw [h, up_unique (n := 200) (r := 15) (by decide) (.inr (by decide))]; rfl
theorem grow_ten : growE ⟨0, 0, 100, 0, 100⟩ 10 = (⟨0, 0, 402, 0, 402⟩, 0) := by
  have hb : ballE 0 0 10 = (⟨0, 0, 100, 0, 100⟩, 0) := rfl
  have hs : sumEl ⟨0, 0, 100, 0, 100⟩ ⟨0, 0, 100, 0, 100⟩ = ⟨0, 0, 402, 0, 402⟩ := by
    unfold sumEl; rw [rad_ten]; rfl
  unfold growE
  rw [if_pos (by decide), if_neg (by decide), hb]
  unfold sumE
  rw [if_pos (by decide), hs, if_pos (by decide)]


end Go.Proofs.Ytfohihjeemmedaa
namespace Go.Proofs.Ytfohihjeemmedaa
open Go.RowKit

theorem ellmay_v (x y a b d : Int) (m : Bool) (h : El.may ⟨x, y, a, b, d⟩ = m) (w : World) :
    Calls Try.prog 11 #[elC x y a b d] w fun e w' => e = .returned (.bool m) ∧ Below w.heap.size w w' := by
  subst h; exact ellmay_c x y a b d w
theorem sum_leastB {e f o : El} (h : sumE e f = (o, 0)) : leastB o.a o.b o.d e.a e.b e.d = true := by
  obtain ⟨he, _, _, ho⟩ := sumE_ok h
  exact (least_iff _ _ _ _ _ _).2 ⟨El.may_mat _ ho, El.may_mat _ he, sum_least h⟩
theorem sumE_err {e f o : El} {k : Int} (h : sumE e f = (o, k)) (hk : k ≠ 0) : o = El.zero := by
  unfold sumE at h
  split at h
  · split at h
    · injection h with h1 h2; exact absurd h2.symm hk
    · injection h with h1 h2; exact h1.symm
  · injection h with h1 h2; exact h1.symm


theorem rem_range (k : Int) (m : Int) (hm : 0 < m) (hm2 : m ≤ 1000000000) : 0 ≤ wrap64 ((IntKind.u64.wrap k).tmod m) ∧ wrap64 ((IntKind.u64.wrap k).tmod m) < m := by
  have h0 : 0 ≤ IntKind.u64.wrap k := by rw [IntKind.wrap_u64]; omega
  have h1 := Int.tmod_lt_of_pos (IntKind.u64.wrap k) hm
  have h2 := Int.tmod_nonneg m h0
  have : wrap64 ((IntKind.u64.wrap k).tmod m) = (IntKind.u64.wrap k).tmod m := by unfold wrap64; omega
  omega
theorem ageE_zero (e : El) (v : Int) (hv : 0 ≤ v) : ageE e v 0 = growE e 0 ∧ ageE e 0 v = growE e 0 := by
  unfold ageE
  by_cases hm : e.may = true
  · rw [if_pos ⟨hm, hv, by decide⟩, if_neg (by omega), if_pos ⟨hm, by decide, hv⟩, if_neg, Int.mul_zero, Int.zero_mul]
    · exact ⟨rfl, rfl⟩
    · rintro ⟨_, h⟩
      rw [Int.tdiv_eq_ediv_of_nonneg (by decide)] at h
      have := Int.ediv_nonneg (show (0 : Int) ≤ 4194304 by decide) hv
      omega
  · rw [if_neg (fun h => hm h.1), if_neg (fun h => hm h.1)]
    have : growE e 0 = (El.zero, 1) := by unfold growE; rw [if_neg (fun h => hm h.1)]
    rw [this]; exact ⟨rfl, rfl⟩

end Go.Proofs.Ytfohihjeemmedaa
namespace Go.Proofs.Ytfohihjeemmedaa
open Go.RowKit

theorem ellin_v (x y a b d p q : Int) (t : Bool) (h : El.has ⟨x, y, a, b, d⟩ p q = t) (w : World) :
    Calls Try.prog 14 #[elC x y a b d, ptV p q] w fun e w' => e = .returned (.bool t) ∧ Below w.heap.size w w' := by
  subst h; exact ellin_c x y a b d p q w


end Go.Proofs.Ytfohihjeemmedaa
