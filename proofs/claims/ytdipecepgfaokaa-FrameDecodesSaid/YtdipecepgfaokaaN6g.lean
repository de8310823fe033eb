/- The document's MayFrame, whole. -/
import Derived.Test.YtdipecepgfaokaaN6b
import Derived.Test.YtdipecepgfaokaaN6c
import Derived.Test.YtdipecepgfaokaaN6d
import Derived.Test.YtdipecepgfaokaaN6e
import Derived.Test.YtdipecepgfaokaaN6f
import Derived.Test.YtdipecepgfaokaaN14
namespace Go.Proofs.Ytdipecepgfaokaa
set_option linter.unusedSimpArgs false
set_option linter.unusedVariables false
open Go.RowKit

theorem may_of (f : FrD) (g1 : nodeB f.src = true) (g2 : inFB f.boot 65535 = true) (g3 : inFB f.seq 65535 = true) (g4 : inFB f.stamp 1000000 = true) :
    mayF f = ((restF f).2 && (decide ((restF f).1.dst = 0) && (decide ((restF f).1.t1 = 0) && (decide ((restF f).1.t2 = 0) && (decide ((restF f).1.who = 0) && (decide ((restF f).1.when = 0) &&
    decide ((restF f).1.x = 0 ∧ (restF f).1.y = 0 ∧ (restF f).1.a = 0 ∧ (restF f).1.b = 0 ∧ (restF f).1.d = 0))))))) := by
  unfold mayF; rw [g1, g2, g3, g4, Bool.true_and, Bool.true_and, Bool.true_and, Bool.true_and]
theorem bool_of {p q : Bool} (h : p = true ↔ q = true) : p = q := Bool.eq_iff_iff.2 h
theorem rframemay_c (k s bo sq st ds ta tb wh wn x y a b d : Int) (w : World) :
    Calls Try.prog 11 #[frC k s bo sq st ds ta tb wh wn x y a b d] w fun e w' => e = .returned (.bool (mayF ⟨k, s, bo, sq, st, ds, ta, tb, wh, wn, x, y, a, b, d⟩)) ∧ Below w.heap.size w w' := by
  by_cases h0 : k < 1
  · have hz : mayF ⟨k, s, bo, sq, st, ds, ta, tb, wh, wn, x, y, a, b, d⟩ = false := by
      cases hm : mayF ⟨k, s, bo, sq, st, ds, ta, tb, wh, wn, x, y, a, b, d⟩ with
      | false => rfl
      | true => have := (frr_of_may _ hm).kind; simp only at this; omega
    rw [hz]; exact rmf_lo _ _ _ _ _ _ _ _ _ _ _ _ _ _ _ h0 _
  by_cases h7 : 7 < k
  · have hz : mayF ⟨k, s, bo, sq, st, ds, ta, tb, wh, wn, x, y, a, b, d⟩ = false := by
      cases hm : mayF ⟨k, s, bo, sq, st, ds, ta, tb, wh, wn, x, y, a, b, d⟩ with
      | false => rfl
      | true => have := (frr_of_may _ hm).kind; simp only at this; omega
    rw [hz]; exact rmf_hi _ _ _ _ _ _ _ _ _ _ _ _ _ _ _ h0 h7 _
  cases g1 : nodeB s with
  | false =>
    have hz : mayF ⟨k, s, bo, sq, st, ds, ta, tb, wh, wn, x, y, a, b, d⟩ = false := by unfold mayF; simp [g1]
    rw [hz]; exact rmf_1 _ _ _ _ _ _ _ _ _ _ _ _ _ _ _ h0 h7 g1 _
  | true =>
  cases g2 : inFB bo 65535 with
  | false =>
    have hz : mayF ⟨k, s, bo, sq, st, ds, ta, tb, wh, wn, x, y, a, b, d⟩ = false := by unfold mayF; simp [g2]
    rw [hz]; exact rmf_2 _ _ _ _ _ _ _ _ _ _ _ _ _ _ _ h0 h7 g1 g2 _
  | true =>
  cases g3 : inFB sq 65535 with
  | false =>
    have hz : mayF ⟨k, s, bo, sq, st, ds, ta, tb, wh, wn, x, y, a, b, d⟩ = false := by unfold mayF; simp [g3]
    rw [hz]; exact rmf_3 _ _ _ _ _ _ _ _ _ _ _ _ _ _ _ h0 h7 g1 g2 g3 _
  | true =>
  cases g4 : inFB st 1000000 with
  | false =>
    have hz : mayF ⟨k, s, bo, sq, st, ds, ta, tb, wh, wn, x, y, a, b, d⟩ = false := by unfold mayF; simp [g4]
    rw [hz]; exact rmf_4 _ _ _ _ _ _ _ _ _ _ _ _ _ _ _ h0 h7 g1 g2 g3 g4 _
  | true =>
  rcases (by omega : k = 1 ∨ k = 2 ∨ k = 3 ∨ k = 4 ∨ k = 5 ∨ k = 6 ∨ k = 7) with rfl | rfl | rfl | rfl | rfl | rfl | rfl
  · rw [show mayF ⟨1, s, bo, sq, st, ds, ta, tb, wh, wn, x, y, a, b, d⟩ = decide ((⟨1, s, bo, sq, st, ds, ta, tb, wh, wn, x, y, a, b, d⟩ : FrD) = ⟨1, s, bo, sq, st, 0, 0, 0, 0, 0, 0, 0, 0, 0, 0⟩) from by rw [may_of _ g1 g2 g3 g4]; apply bool_of; simp [restF]]
    exact rmf1_t _ _ _ _ _ _ _ _ _ _ _ _ _ _ g1 g2 g3 g4  _
  · cases e0 : nodeB ds with
    | false =>
      rw [show mayF ⟨2, s, bo, sq, st, ds, ta, tb, wh, wn, x, y, a, b, d⟩ = false from by rw [may_of _ g1 g2 g3 g4]; simp [restF, e0]]
      exact rmf2_0 _ _ _ _ _ _ _ _ _ _ _ _ _ _ g1 g2 g3 g4 e0 _
    | true =>
    by_cases e1 : ds = s
    · rw [show mayF ⟨2, s, bo, sq, st, ds, ta, tb, wh, wn, x, y, a, b, d⟩ = false from by rw [may_of _ g1 g2 g3 g4]; simp [restF, e0, e1]]
      exact rmf2_1 _ _ _ _ _ _ _ _ _ _ _ _ _ _ g1 g2 g3 g4 e0 e1 _
    rw [show mayF ⟨2, s, bo, sq, st, ds, ta, tb, wh, wn, x, y, a, b, d⟩ = decide ((⟨2, s, bo, sq, st, ds, ta, tb, wh, wn, x, y, a, b, d⟩ : FrD) = ⟨2, s, bo, sq, st, ds, 0, 0, 0, 0, 0, 0, 0, 0, 0⟩) from by rw [may_of _ g1 g2 g3 g4]; apply bool_of; simp [restF, e0, e1]]
    exact rmf2_t _ _ _ _ _ _ _ _ _ _ _ _ _ _ g1 g2 g3 g4 e0 e1 _
  · cases e0 : nodeB ds with
    | false =>
      rw [show mayF ⟨3, s, bo, sq, st, ds, ta, tb, wh, wn, x, y, a, b, d⟩ = false from by rw [may_of _ g1 g2 g3 g4]; simp [restF, e0]]
      exact rmf3_0 _ _ _ _ _ _ _ _ _ _ _ _ _ _ g1 g2 g3 g4 e0 _
    | true =>
    by_cases e1 : ds = s
    · rw [show mayF ⟨3, s, bo, sq, st, ds, ta, tb, wh, wn, x, y, a, b, d⟩ = false from by rw [may_of _ g1 g2 g3 g4]; simp [restF, e0, e1]]
      exact rmf3_1 _ _ _ _ _ _ _ _ _ _ _ _ _ _ g1 g2 g3 g4 e0 e1 _
    cases e2 : inFB ta 4294967295 with
    | false =>
      rw [show mayF ⟨3, s, bo, sq, st, ds, ta, tb, wh, wn, x, y, a, b, d⟩ = false from by rw [may_of _ g1 g2 g3 g4]; simp [restF, e0, e1, e2]]
      exact rmf3_2 _ _ _ _ _ _ _ _ _ _ _ _ _ _ g1 g2 g3 g4 e0 e1 e2 _
    | true =>
    rw [show mayF ⟨3, s, bo, sq, st, ds, ta, tb, wh, wn, x, y, a, b, d⟩ = decide ((⟨3, s, bo, sq, st, ds, ta, tb, wh, wn, x, y, a, b, d⟩ : FrD) = ⟨3, s, bo, sq, st, ds, ta, 0, 0, 0, 0, 0, 0, 0, 0⟩) from by rw [may_of _ g1 g2 g3 g4]; apply bool_of; simp [restF, e0, e1, e2]]
    exact rmf3_t _ _ _ _ _ _ _ _ _ _ _ _ _ _ g1 g2 g3 g4 e0 e1 e2 _
  · cases e0 : nodeB ds with
    | false =>
      rw [show mayF ⟨4, s, bo, sq, st, ds, ta, tb, wh, wn, x, y, a, b, d⟩ = false from by rw [may_of _ g1 g2 g3 g4]; simp [restF, e0]]
      exact rmf4_0 _ _ _ _ _ _ _ _ _ _ _ _ _ _ g1 g2 g3 g4 e0 _
    | true =>
    by_cases e1 : ds = s
    · rw [show mayF ⟨4, s, bo, sq, st, ds, ta, tb, wh, wn, x, y, a, b, d⟩ = false from by rw [may_of _ g1 g2 g3 g4]; simp [restF, e0, e1]]
      exact rmf4_1 _ _ _ _ _ _ _ _ _ _ _ _ _ _ g1 g2 g3 g4 e0 e1 _
    cases e2 : inFB ta 70368744177664 with
    | false =>
      rw [show mayF ⟨4, s, bo, sq, st, ds, ta, tb, wh, wn, x, y, a, b, d⟩ = false from by rw [may_of _ g1 g2 g3 g4]; simp [restF, e0, e1, e2]]
      exact rmf4_2 _ _ _ _ _ _ _ _ _ _ _ _ _ _ g1 g2 g3 g4 e0 e1 e2 _
    | true =>
    cases e3 : inFB tb 70368744177664 with
    | false =>
      rw [show mayF ⟨4, s, bo, sq, st, ds, ta, tb, wh, wn, x, y, a, b, d⟩ = false from by rw [may_of _ g1 g2 g3 g4]; simp [restF, e0, e1, e2, e3]]
      exact rmf4_3 _ _ _ _ _ _ _ _ _ _ _ _ _ _ g1 g2 g3 g4 e0 e1 e2 e3 _
    | true =>
    cases e4 : inFB wn 4294967295 with
    | false =>
      rw [show mayF ⟨4, s, bo, sq, st, ds, ta, tb, wh, wn, x, y, a, b, d⟩ = false from by rw [may_of _ g1 g2 g3 g4]; simp [restF, e0, e1, e2, e3, e4]]
      exact rmf4_4 _ _ _ _ _ _ _ _ _ _ _ _ _ _ g1 g2 g3 g4 e0 e1 e2 e3 e4 _
    | true =>
    rw [show mayF ⟨4, s, bo, sq, st, ds, ta, tb, wh, wn, x, y, a, b, d⟩ = decide ((⟨4, s, bo, sq, st, ds, ta, tb, wh, wn, x, y, a, b, d⟩ : FrD) = ⟨4, s, bo, sq, st, ds, ta, tb, 0, wn, 0, 0, 0, 0, 0⟩) from by rw [may_of _ g1 g2 g3 g4]; apply bool_of; simp [restF, e0, e1, e2, e3, e4]]
    exact rmf4_t _ _ _ _ _ _ _ _ _ _ _ _ _ _ g1 g2 g3 g4 e0 e1 e2 e3 e4 _
  · cases hm : El.may ⟨x, y, a, b, d⟩ with
    | false =>
      rw [show mayF ⟨5, s, bo, sq, st, ds, ta, tb, wh, wn, x, y, a, b, d⟩ = false from by rw [may_of _ g1 g2 g3 g4]; simp [restF, FrD.el, hm]]
      exact rmf5_mf _ _ _ _ _ _ _ _ _ _ _ _ _ _ g1 g2 g3 g4 hm _
    | true =>
    rw [show mayF ⟨5, s, bo, sq, st, ds, ta, tb, wh, wn, x, y, a, b, d⟩ = decide ((⟨5, s, bo, sq, st, ds, ta, tb, wh, wn, x, y, a, b, d⟩ : FrD) = ⟨5, s, bo, sq, st, 0, 0, 0, 0, 0, x, y, a, b, d⟩) from by rw [may_of _ g1 g2 g3 g4]; apply bool_of; simp [restF, FrD.el, hm]]
    exact rmf5_mt _ _ _ _ _ _ _ _ _ _ _ _ _ _ g1 g2 g3 g4 hm _
  · cases e0 : nodeB wh with
    | false =>
      rw [show mayF ⟨6, s, bo, sq, st, ds, ta, tb, wh, wn, x, y, a, b, d⟩ = false from by rw [may_of _ g1 g2 g3 g4]; simp [restF, e0]]
      exact rmf6_0 _ _ _ _ _ _ _ _ _ _ _ _ _ _ g1 g2 g3 g4 e0 _
    | true =>
    by_cases e1 : wh = s
    · rw [show mayF ⟨6, s, bo, sq, st, ds, ta, tb, wh, wn, x, y, a, b, d⟩ = false from by rw [may_of _ g1 g2 g3 g4]; simp [restF, e0, e1]]
      exact rmf6_1 _ _ _ _ _ _ _ _ _ _ _ _ _ _ g1 g2 g3 g4 e0 e1 _
    by_cases e2 : wn < 0
    · have ei : inFB wn st = false := by unfold inFB; rw [decide_eq_false (by omega), Bool.false_and]
      rw [show mayF ⟨6, s, bo, sq, st, ds, ta, tb, wh, wn, x, y, a, b, d⟩ = false from by rw [may_of _ g1 g2 g3 g4]; simp [restF, ei]]
      exact rmf6_2 _ _ _ _ _ _ _ _ _ _ _ _ _ _ g1 g2 g3 g4 e0 e1 e2 _
    by_cases e3 : st < wn
    · have ei : inFB wn st = false := by unfold inFB; rw [decide_eq_false (show ¬ wn ≤ st by omega), Bool.and_false]
      rw [show mayF ⟨6, s, bo, sq, st, ds, ta, tb, wh, wn, x, y, a, b, d⟩ = false from by rw [may_of _ g1 g2 g3 g4]; simp [restF, ei]]
      exact rmf6_3 _ _ _ _ _ _ _ _ _ _ _ _ _ _ g1 g2 g3 g4 e0 e1 e2 e3 _
    have ei : inFB wn st = true := by unfold inFB; rw [decide_eq_true (by omega), decide_eq_true (by omega)]; rfl
    cases hm : El.may ⟨x, y, a, b, d⟩ with
    | false =>
      rw [show mayF ⟨6, s, bo, sq, st, ds, ta, tb, wh, wn, x, y, a, b, d⟩ = false from by rw [may_of _ g1 g2 g3 g4]; simp [restF, FrD.el, hm]]
      exact rmf6_mf _ _ _ _ _ _ _ _ _ _ _ _ _ _ g1 g2 g3 g4 e0 e1 e2 e3 hm _
    | true =>
    rw [show mayF ⟨6, s, bo, sq, st, ds, ta, tb, wh, wn, x, y, a, b, d⟩ = decide ((⟨6, s, bo, sq, st, ds, ta, tb, wh, wn, x, y, a, b, d⟩ : FrD) = ⟨6, s, bo, sq, st, 0, 0, 0, wh, wn, x, y, a, b, d⟩) from by rw [may_of _ g1 g2 g3 g4]; apply bool_of; simp [restF, e0, e1, ei, FrD.el, hm]]
    exact rmf6_mt _ _ _ _ _ _ _ _ _ _ _ _ _ _ g1 g2 g3 g4 e0 e1 e2 e3 hm _
  · rw [show mayF ⟨7, s, bo, sq, st, ds, ta, tb, wh, wn, x, y, a, b, d⟩ = decide ((⟨7, s, bo, sq, st, ds, ta, tb, wh, wn, x, y, a, b, d⟩ : FrD) = ⟨7, s, bo, sq, st, 0, 0, 0, 0, 0, 0, 0, 0, 0, 0⟩) from by rw [may_of _ g1 g2 g3 g4]; apply bool_of; simp [restF]]
    exact rmf7_t _ _ _ _ _ _ _ _ _ _ _ _ _ _ g1 g2 g3 g4  _
theorem rframemay_v (f : FrD) (m : Bool) (h : mayF f = m) (w : World) :
    Calls Try.prog 11 #[frV f] w fun e w' => e = .returned (.bool m) ∧ Below w.heap.size w w' := by
  rw [← h]; exact rframemay_c _ _ _ _ _ _ _ _ _ _ _ _ _ _ _ w
end Go.Proofs.Ytdipecepgfaokaa
