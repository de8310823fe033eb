/- The walk of GoldenFinds' closures. -/
import Derived.Test.YtplhfngcmjopcaaGF1
namespace Go.Proofs.Ytplhfngcmjopcaa
open Go.RowKit

set_option maxRecDepth 100000 in
set_option maxHeartbeats 1000000 in
/-- The closure that gives the values. -/
theorem val_c (Bt Bs : Nat) (A : Option Addr) (len cap : Nat) (T : Nat → Int) (at' x : Int) (w : World) (hT : StepsAt w A len T) (hlen : len ≤ 9223372036854775807) (ha : 1 ≤ at' ∧ at' ≤ 33) (hx : 0 ≤ x ∧ x ≤ 34)
    (ht : Blk w Bt #[.int .i64 at'] 3) (hs : Blk w Bs #[.slice A len cap] 43) :
    Calls Try.prog 9 #[.int .i64 x, .pointer (some ⟨Bt, 0, none⟩), .pointer (some ⟨Bs, 0, none⟩)] w fun e w' => e = .returned (.int .i64 (sumS T len (x - at').natAbs)) ∧ Below w.heap.size w w' := by
  obtain ⟨y0, c0, f0, -, -, -⟩ := ht.facts
  obtain ⟨y1, c1, f1, -, -, -⟩ := hs.facts
  have HT := Lib.hid hT
  obtain ⟨d, hd⟩ : ∃ d, d = (x - at').natAbs := ⟨_, rfl⟩
  have e1 : wrap64 (x - at') = x - at' := by unfold wrap64; omega
  have e2 : wrap64 (at' - x) = at' - x := by unfold wrap64; omega
  have hd34 : d ≤ 34 := by omega
  have mx : max (x - at') (at' - x) = (d : Int) := by omega
  clear hT ht hs
  rw [← hd]
  go_enter Try.func9, Try.ntmps9
  go_wp2_with fail
  go_region
  all_goals go_wp2_with fail
  all_goals (first | rw [show x - at' = (d : Int) by omega] | rw [show at' - x = (d : Int) by omega])
  all_goals clear mx e1 e2 hd
  all_goals go_loop [5, 17] (fun t5 t17 => ∃ k : Nat, k ≤ d ∧ t17 = .int .i64 k ∧ t5 = .int .i64 (sumS T len k)) (fun _ i => d - (intOf i).toNat)
  case atStart => exact ⟨0, Nat.zero_le _, rfl, rfl⟩
  case atStart => exact ⟨0, Nat.zero_le _, rfl, rfl⟩
  all_goals (
    obtain ⟨k, hk, rfl, rfl⟩ := hrel
    by_cases hlt : k < d
    · have k1 : (k : Int) < d := by omega
      have k2 : (0 : Int) ≤ k := by omega
      have k3 : wrap64 ((k : Int) + 1) = ((k + 1 : Nat) : Int) := by unfold wrap64; omega
      have hbd := sumS_bd T len k
      have hst := stepS_pos T len k
      have hsn : Hid (sumS T len (k + 1) = sumS T len k + stepS T len k) := rfl
      by_cases hkl : k < len
      · obtain ⟨b, o, rfl, hbb, hc⟩ := HT.out k hkl
        have kl1 : (k : Int) < (len : Int) := by omega
        have hss : stepS T len k = 1 + (IntKind.u64.wrap (T k)).tmod 1000 := by unfold stepS; rw [if_pos hkl]
        obtain ⟨u, hu⟩ : ∃ u, (IntKind.u64.wrap (T k)).tmod 1000 = u := ⟨_, rfl⟩
        rw [hu] at hss
        have u1 : wrap64 u = u := by unfold wrap64; omega
        have u2 : wrap64 (1 + u) = 1 + u := by unfold wrap64; omega
        have u3 : wrap64 (sumS T len k + (1 + u)) = sumS T len (k + 1) := by rw [hsn.out, hss]; unfold wrap64; omega
        clear hss hbd hst hsn
        go_wp2_with fail
        go_round
        case rel => exact ⟨k + 1, by omega, by first | rfl | simp only [k3] | go_num, by first | rfl | simp only [u3]⟩
        case measure => simp [intOf]; omega
      · have kl1 : ¬ (k : Int) < (len : Int) := by omega
        have hss : stepS T len k = 1 := by unfold stepS; rw [if_neg hkl]
        have u3 : wrap64 (sumS T len k + 1) = sumS T len (k + 1) := by rw [hsn.out, hss]; unfold wrap64; omega
        clear hss hbd hst hsn
        go_wp2_with fail
        go_round
        case rel => exact ⟨k + 1, by omega, by first | rfl | simp only [k3] | go_num, by first | rfl | simp only [u3]⟩
        case measure => simp [intOf]; omega
    · obtain rfl : k = d := by omega
      have k1 : ¬ (k : Int) < k := by omega
      go_wp2_with fail
      go_ret
      exact ⟨rfl, (Below.refl _ _).drew⟩)
end Go.Proofs.Ytplhfngcmjopcaa
