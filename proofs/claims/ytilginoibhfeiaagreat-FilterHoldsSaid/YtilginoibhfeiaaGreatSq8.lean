/- What a filter's calls keep: the position (plain). -/
import Derived.Test.YtilginoibhfeiaaGreatSA
import Derived.Test.YtilginoibhfeiaaGreatV11
import Derived.Test.YtilginoibhfeiaaGreatBA
namespace Go.Proofs.YtilginoibhfeiaaGreat
open Go.RowKit

/-- A filter that is not lost holds the position. -/
def FH (v : Bool) (e : El) (P Q : Int) : Prop := v = true → e.has P Q = true
theorem fh_lost (e : El) (P Q : Int) : FH false e P Q := fun h => by cases h
theorem fh_set {m : Int} {v v1 : Bool} {e f e1 : El} {k P Q : Int} (h : FH v e P Q) (hf : f.has P Q = true) (hs : setS m v e f = ((v1, e1), k)) : FH v1 e1 P Q := by
  unfold setS at hs
  split at hs
  · split at hs
    · injection hs with h1 h2; injection h1 with h3 h4; subst h3; subst h4; exact h
    · injection hs with h1 h2; injection h1 with h3 h4; subst h3; subst h4; exact fun _ => hf
  · injection hs with h1 h2; injection h1 with h3 h4; subst h3; subst h4; exact h
theorem shift_has {e : El} {p q u w : Int} (h : e.has p q = true) (hm : (e.sh u w).may = true) : (e.sh u w).has (p + u) (q + w) = true := by
  have n := El.near e p q h
  have m := ((El.may_iff _).1 hm).1
  have hh := ((El.has_iff _ _ _).1 h).2.2
  have e1 : (e.sh u w).x = e.x + u := rfl
  have e2 : (e.sh u w).y = e.y + w := rfl
  refine (El.has_iff _ _ _).2 ⟨hm, ?_, ?_⟩
  · rw [e1, e2] at m; omega
  · show holdsB e.a e.b e.d (p + u - (e.x + u)) (q + w - (e.y + w)) = true
    rw [show p + u - (e.x + u) = p - e.x by omega, show q + w - (e.y + w) = q - e.y by omega]; exact hh
theorem fh_move {m : Int} {v v1 : Bool} {e e1 : El} {k p q u w d1 d2 r : Int} (h : FH v e p q) (hu : -1000 ≤ u ∧ u ≤ 1000) (hw : -1000 ≤ w ∧ w ≤ 1000) (hr : 0 ≤ r ∧ r ≤ 1000) (hd : d1 * d1 + d2 * d2 ≤ r * r) (hs : moveS m v e u w r = ((v1, e1), k)) : FH v1 e1 (p + u + d1) (q + w + d2) := by
  cases v with
  | false =>
    unfold moveS at hs
    rw [if_neg (by decide)] at hs
    injection hs with h1 h2; injection h1 with h3 h4; subst h3
    exact fh_lost _ _ _
  | true =>
    have he := h rfl
    have em := ((El.has_iff _ _ _).1 he).1
    obtain ⟨s, ks, hsh⟩ : ∃ o k, shiftE e u w = (o, k) := ⟨_, _, rfl⟩
    obtain ⟨g, kg, hg⟩ : ∃ o k, growE s r = (o, k) := ⟨_, _, rfl⟩
    have hks : ks = 2 ∨ (ks = 0 ∧ s = e.sh u w ∧ (e.sh u w).may = true) := by
      rcases shift_cases e u w with ⟨h1, _⟩ | ⟨_, h1, _⟩ | ⟨_, _, _, h1⟩ | ⟨_, _, _, h1⟩
      · rw [em] at h1; cases h1
      · have : withinB u w 4194304 = true := (withinB_iff _ _ _).2 (by omega)
        rw [this] at h1; cases h1
      · rw [h1] at hsh; injection hsh with _ h2; exact .inl h2.symm
      · rw [h1] at hsh
        injection hsh with h2 h3
        subst h2; subst h3
        exact .inr ⟨rfl, rfl, (shift_ok h1).2.2.1⟩
    rcases move_cases m e s g u w r ks kg hsh hg with ⟨k0, k2, -⟩ | ⟨-, hv⟩ | ⟨k0, g0, g2, -⟩ | ⟨-, -, hv⟩ | ⟨-, -, -, hv⟩ | ⟨k0, g0, hne, hv⟩
    · rcases hks with h1 | ⟨h1, _⟩
      · exact absurd h1 k2
      · exact absurd h1 k0
    · rw [hs] at hv; injection hv with h1 _; injection h1 with h2 _; subst h2; exact fh_lost _ _ _
    · exfalso
      rcases hks with h1 | ⟨h1, h2, h3⟩
      · omega
      · subst h2
        unfold growE at hg
        rw [if_pos ⟨h3, by omega, by omega⟩] at hg
        split at hg
        · injection hg with _ h4; exact g0 h4.symm
        · unfold sumE at hg
          split at hg
          · split at hg
            · injection hg with _ h4; exact g0 h4.symm
            · injection hg with _ h4; exact g2 h4.symm
          · rename_i hr0 hn
            refine hn ⟨h3, ?_⟩
            have hb : ballE 0 0 r = (⟨0, 0, r * r, 0, r * r⟩, 0) := by unfold ballE; rw [if_pos ⟨by decide, by omega, by omega⟩]
            rw [hb]
            exact ball_may 0 0 r (by decide) (by omega) (by omega)
    · rw [hs] at hv; injection hv with h1 _; injection h1 with h2 _; subst h2; exact fh_lost _ _ _
    · rw [hs] at hv; injection hv with h1 _; injection h1 with h2 _; subst h2; exact fh_lost _ _ _
    · rcases hks with h1 | ⟨h1, h2, h3⟩
      · omega
      · subst h2; subst g0
        have hh := grow_holds hg (p + u) (q + w) d1 d2 (shift_has he h3) hd
        have gm := ((El.has_iff _ _ _).1 hh).1
        rw [hs] at hv
        unfold setS at hv hne
        rw [if_pos gm] at hv hne
        by_cases hgt : m < g.tr
        · rw [if_pos hgt] at hne; exact absurd rfl hne
        · rw [if_neg hgt] at hv
          injection hv with h4 _; injection h4 with h5 h6; subst h5; subst h6; exact fun _ => hh
theorem fh_meet {m : Int} {v v1 : Bool} {e n e1 : El} {k p q : Int} (h : FH v e p q) (hn : n.has p q = true) (hs : meetS m v e n = ((v1, e1), k)) : FH v1 e1 p q := by
  unfold meetS at hs
  cases v with
  | false => rw [if_neg (by decide)] at hs; exact fh_set h hn hs
  | true =>
    rw [if_pos rfl] at hs
    have he := h rfl
    obtain ⟨g, kg, hg⟩ : ∃ o k, gfuseE e n = (o, k) := ⟨_, _, rfl⟩
    rw [hg] at hs
    rcases gholds e n ((El.has_iff _ _ _).1 he).1 ((El.has_iff _ _ _).1 hn).1 p q hg with ⟨h1, h2⟩ | ⟨h1, h2, -, -, -⟩
    · exact absurd ⟨he, hn⟩ h2
    · subst h1
      unfold takeS at hs
      rw [if_pos rfl] at hs
      injection hs with h3 _; injection h3 with h4 h5; subst h5; exact fun _ => h2 he hn
theorem acq_has {n : El} {p q p' q' hi : Int} (hn : n.has p' q' = true) (hhi : (p - p') * (p - p') + (q - q') * (q - q') ≤ hi * hi) (h0 : 0 ≤ hi) (hmx : hi ≤ 4194304) {a : El} {k : Int} (h : acqE n hi = (a, k)) : ¬ k = 0 ∨ (k = 0 ∧ a.has p q = true) := by
  have hm := ((El.has_iff _ _ _).1 hn).1
  unfold acqE at h
  rw [if_pos ⟨hm, by omega, by omega⟩] at h
  split at h
  · injection h with h1 h2; left; omega
  · rename_i hfar
    have rl := rad_nat n
    have pm := (mayPt_iff _ _).2 ((El.may_iff _).1 hm).1
    have hb : ballE n.x n.y (max 1 (hi + n.rad)) = (⟨n.x, n.y, max 1 (hi + n.rad) * max 1 (hi + n.rad), 0, max 1 (hi + n.rad) * max 1 (hi + n.rad)⟩, 0) := by
      unfold ballE; rw [if_pos ⟨pm, by omega, by omega⟩]
    rw [hb] at h
    injection h with h1 h2
    refine .inr ⟨h2.symm, ?_⟩
    rw [← h1]
    have hf := two_le (u := p - p') (v := q - q') (x := p' - n.x) (y := q' - n.y) (R := hi) (r := n.rad) h0 rl hhi (has_rad n p' q' hn)
    rw [show p - p' + (p' - n.x) = p - n.x by omega, show q - q' + (q' - n.y) = q - n.y by omega] at hf
    have hs := sq_le_sq' (a := hi + n.rad) (b := max 1 (hi + n.rad)) (by omega) (by omega)
    have := ball_has n.x n.y (max 1 (hi + n.rad)) (p - n.x) (q - n.y) pm (by omega) (by omega) (by omega)
    rwa [show n.x + (p - n.x) = p by omega, show n.y + (q - n.y) = q by omega] at this
theorem fh_range {m : Int} {v v1 : Bool} {e n e1 : El} {k p q p' q' s1 s2 D lo hi : Int} (h : FH v e p q) (hn : n.has p' q' = true) (h1 : 0 ≤ s1) (h2 : 0 ≤ s2) (hD : rtI ((p - p') * (p - p') + (q - q') * (q - q')) = D) (hlo : max 0 (D - s1) = lo) (hhi : D + 1 + s2 = hi) (hs : rangeS m v e n lo hi = ((v1, e1), k)) : FH v1 e1 p q := by
  unfold rangeS at hs
  by_cases hm : hi ≤ 4194304
  · cases v with
    | true =>
      have T := told_of e n p q p' q' s1 s2 D lo hi (h rfl) hn h1 h2 hD hlo hhi hm
      obtain ⟨o, hu, ho⟩ := upd_holds T
      rw [if_pos rfl, hu] at hs
      unfold takeS at hs
      rw [if_pos rfl] at hs
      injection hs with h3 _; injection h3 with h4 h5; subst h5; exact fun _ => ho
    | false =>
      rw [if_neg (by decide)] at hs
      obtain ⟨a, ka, ha⟩ : ∃ o k, acqE n hi = (o, k) := ⟨_, _, rfl⟩
      rw [ha] at hs
      have a1 := int_sq_nonneg (p - p')
      have a2 := int_sq_nonneg (q - q')
      have r := rtI_spec ((p - p') * (p - p') + (q - q') * (q - q')) (by omega)
      rw [hD] at r
      have hsq := sq_le_sq' (a := D + 1) (b := hi) (by omega) (by omega)
      rcases acq_has (p := p) (q := q) hn (by omega) (by omega) hm ha with hk | ⟨hk, hh⟩
      · rw [if_neg hk] at hs
        injection hs with h3 _; injection h3 with h4 h5; subst h4; exact fh_lost _ _ _
      · rw [if_pos hk] at hs
        exact fh_set h hh hs
  · have hr : mayRange lo hi = false := by
      cases hq : mayRange lo hi with
      | false => rfl
      | true => have := (mayRange_iff _ _).1 hq; omega
    cases v with
    | true =>
      rw [if_pos rfl, upd_no e n lo hi (.inr (.inr hr))] at hs
      unfold takeS at hs
      rw [if_neg (by decide), if_neg (by decide)] at hs
      injection hs with h3 _; injection h3 with h4 h5; subst h5; exact fun _ => h rfl
    | false =>
      rw [if_neg (by decide)] at hs
      have ha : acqE n hi = (El.zero, 1) := by unfold acqE; rw [if_neg]; rintro ⟨-, -, h⟩; omega
      rw [ha, if_neg (by decide)] at hs
      injection hs with h3 _; injection h3 with h4 h5; subst h4; exact fh_lost _ _ _
end Go.Proofs.YtilginoibhfeiaaGreat
