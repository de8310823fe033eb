/- The walk of StripFar. -/
import Derived.Test.YtfohihjeemmedaaV7
import Derived.Test.YtfohihjeemmedaaSf
namespace Go.Proofs.Ytfohihjeemmedaa
open Go.RowKit

set_option maxRecDepth 100000 in
set_option maxHeartbeats 4000000 in
theorem stripFar_c (n1 n2 n3 : Int) (w : World) : Calls Try.prog 5 #[.int .i64 n1, .int .i64 n2, .int .i64 n3] w fun e w' => e = .returned (.bool true) ∧ Below w.heap.size w w' := by
  obtain ⟨a1, h1⟩ : ∃ K, wrap64 ((IntKind.u64.wrap n1).tmod 1000) = K := ⟨_, rfl⟩
  obtain ⟨a2, h2⟩ : ∃ K, wrap64 ((IntKind.u64.wrap n2).tmod 1000) = K := ⟨_, rfl⟩
  obtain ⟨a3, h3⟩ : ∃ K, wrap64 ((IntKind.u64.wrap n3).tmod 1000) = K := ⟨_, rfl⟩
  have b1 : 0 ≤ a1 ∧ a1 < 1000 := by rw [← h1]; exact rem_range n1 1000 (by decide) (by decide)
  have b2 : 0 ≤ a2 ∧ a2 < 1000 := by rw [← h2]; exact rem_range n2 1000 (by decide) (by decide)
  have b3 : 0 ≤ a3 ∧ a3 < 1000 := by rw [← h3]; exact rem_range n3 1000 (by decide) (by decide)
  obtain ⟨r, hr⟩ : ∃ K, 2 + a1 = K := ⟨_, rfl⟩
  obtain ⟨s, hs⟩ : ∃ K, 2 + a2 = K := ⟨_, rfl⟩
  obtain ⟨gap, hg⟩ : ∃ K, 1 + a3 = K := ⟨_, rfl⟩
  obtain ⟨t, ht⟩ : ∃ K, r + s = K := ⟨_, rfl⟩
  obtain ⟨t8, ht8⟩ : ∃ K, 8 * t = K := ⟨_, rfl⟩
  obtain ⟨D, hD⟩ : ∃ K, t8 + gap = K := ⟨_, rfl⟩
  obtain ⟨D3, hD3⟩ : ∃ K, 3 * D = K := ⟨_, rfl⟩
  obtain ⟨D4, hD4⟩ : ∃ K, D3 + 1 = K := ⟨_, rfl⟩
  have F : Far r s gap D := ⟨by omega, by omega, by omega, by omega⟩
  obtain ⟨⟨ox, oy, oa, ob, od⟩, hn⟩ := far_near F
  obtain ⟨⟨px, py, pa, pb, pd⟩, hf⟩ := far_far F
  rw [hD3, hD4] at hf
  have be : Hid (ballE D 0 r = (⟨D, 0, r * r, 0, r * r⟩, 0)) := show _ = _ from by unfold ballE; rw [if_pos ⟨(mayPt_iff _ _).2 (by omega), by omega, by omega⟩]
  have bn : Hid (ballE 0 0 s = (⟨0, 0, s * s, 0, s * s⟩, 0)) := show _ = _ from by unfold ballE; rw [if_pos ⟨(mayPt_iff _ _).2 (by decide), by omega, by omega⟩]
  have HN := Lib.hid hn
  have HF := Lib.hid hf
  have w1 : wrap64 (2 + a1) = r := by rw [hr]; unfold wrap64; omega
  have w2 : wrap64 (2 + a2) = s := by rw [hs]; unfold wrap64; omega
  have w3 : wrap64 (1 + a3) = gap := by rw [hg]; unfold wrap64; omega
  have w4 : wrap64 (r + s) = t := by rw [ht]; unfold wrap64; omega
  have w5 : wrap64 (8 * t) = t8 := by rw [ht8]; unfold wrap64; omega
  have w6 : wrap64 (t8 + gap) = D := by rw [hD]; unfold wrap64; omega
  have w7 : wrap64 (3 * D) = D3 := by rw [hD3]; unfold wrap64; omega
  have w8 : wrap64 (D3 + 1) = D4 := by rw [hD4]; unfold wrap64; omega
  clear b1 b2 b3 hr hs hg ht ht8 hD hD3 hD4 F hn hf
  go_enter Try.func5, Try.ntmps5
  go_wp2_with fail
  simp only [h1, h2, h3, w1, w2, w3, w4, w5, w6]
  refine (ellball_v _ _ _ _ _ _ _ _ _ be.out _).mono ?_; rintro e w1 ⟨rfl, hb1⟩
  have z1 := hb1.size
  go_wp2_with fail
  refine (ellball_v _ _ _ _ _ _ _ _ _ bn.out _).mono ?_; rintro e w2 ⟨rfl, hb2⟩; have z_w2 := hb2.size; (try simp at z_w2); obtain ⟨y_w2_0_0, c_w2_0_0, f_w2_0_0, r_w2_0_0, t_w2_0_0, p_w2_0_0⟩ := bk hb2 (w1.heap.size) (by first | omega | (simp; done) | (simp; omega) | fail)
  go_wp2_with fail
  refine (upd_v _ _ _ _ _ _ _ _ _ _ _ _ _ _ _ _ _ _ HN.out _).mono ?_; rintro e w3 ⟨rfl, hb3⟩; have z_w3 := hb3.size; (try simp at z_w3); obtain ⟨y_w3_0_0, c_w3_0_0, f_w3_0_0, r_w3_0_0, t_w3_0_0, p_w3_0_0⟩ := bk hb3 (w1.heap.size) (by first | omega | (simp; done) | (simp; omega) | fail); obtain ⟨y_w3_1_0, c_w3_1_0, f_w3_1_0, r_w3_1_0, t_w3_1_0, p_w3_1_0⟩ := bk hb3 (w2.heap.size) (by first | omega | (simp; done) | (simp; omega) | fail)
  go_wp2_with fail
  simp only [w7, w8]
  refine (upd_v _ _ _ _ _ _ _ _ _ _ _ _ _ _ _ _ _ _ HF.out _).mono ?_; rintro e w4 ⟨rfl, hb4⟩
  have z4 := hb4.size; (try simp at z4)
  go_wp2_with fail
  refine (awake8_c _).mono ?_; rintro e w9 ⟨rfl, hb9⟩
  have z9 := hb9.size
  go_wp2
  go_ret
  exact ⟨rfl, (by repeat (first | with_reducible exact Below.refl _ _ | with_reducible exact Below_of_hid (by assumption) | with_reducible refine Below.drew ?_ | with_reducible refine below_drewN ?_ _ | (with_reducible refine Below_putRow ?_ ?hB _ _; case hB => (first | omega | (simp; done) | (simp; omega))) | (with_reducible refine Below.alloc ?_ ?hB _; case hB => (first | omega | (simp; done) | (simp; omega))) | (with_reducible refine Below.setCell ?_ ?hB _; case hB => (first | omega | (simp; done) | (simp; omega))) | (with_reducible refine Below.trans ?_ (Below.mono (by assumption) ?hB); case hB => (first | omega | (simp; done) | (simp; omega)))))⟩
end Go.Proofs.Ytfohihjeemmedaa
