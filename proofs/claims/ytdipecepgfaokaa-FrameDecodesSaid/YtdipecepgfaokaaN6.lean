/- The walk of the document's MayFrame: id, MaySerial, Time, fine, mark. -/
import Derived.Test.YtdipecepgfaokaaN6a
import Derived.Test.YtdipecepgfaokaaN5
import Derived.Test.YtdipecepgfaokaaX0
import Derived.BigRegion
namespace Go.Proofs.Ytdipecepgfaokaa
set_option linter.unusedSimpArgs false
set_option linter.unusedVariables false
open Go.RowKit

set_option maxHeartbeats 400000 in
theorem rid_v (n : Int) (k : Bool) (h : nodeB n = k) (w : World) : Calls Try.prog 22 #[.int .i64 n] w fun e w' => e = .returned (.bool k) ∧ w' = w := by
  subst h
  have E : nodeB n = (decide (0 ≤ n) && decide (n < 64)) := rfl
  by_cases h1 : 0 ≤ n
  · by_cases h2 : n < 64
    · have EV : Hid (nodeB n = true) := by show _ = _; rw [E]; simp [h1, h2]
      clear E
      have h3 : n ≤ 63 := by omega
      go_enter Try.func22, Try.ntmps22
      go_wp2
      go_ret
      exact ⟨by rw [EV.out]; rfl, rfl⟩
    · have EV : Hid (nodeB n = false) := by show _ = _; rw [E]; simp [h1, h2]
      clear E
      have h3 : ¬ n ≤ 63 := by omega
      go_enter Try.func22, Try.ntmps22
      go_wp2
      go_ret
      exact ⟨by rw [EV.out]; rfl, rfl⟩
  · have EV : Hid (nodeB n = false) := by show _ = _; rw [E]; simp [h1]
    clear E
    go_enter Try.func22, Try.ntmps22
    go_wp2
    go_ret
    exact ⟨by rw [EV.out]; rfl, rfl⟩
set_option maxHeartbeats 400000 in
theorem rser_v (n : Int) (k : Bool) (h : inFB n 65535 = k) (w : World) : Calls Try.prog 23 #[.int .i64 n] w fun e w' => e = .returned (.bool k) ∧ w' = w := by
  subst h
  have E : inFB n 65535 = (decide (0 ≤ n) && decide (n ≤ 65535)) := rfl
  by_cases h1 : 0 ≤ n
  · by_cases h2 : n ≤ 65535
    · have EV : Hid (inFB n 65535 = true) := by show _ = _; rw [E]; simp [h1, h2]
      clear E
      have h3 : n ≤ 65535 := by omega
      go_enter Try.func23, Try.ntmps23
      go_wp2
      go_ret
      exact ⟨by rw [EV.out]; rfl, rfl⟩
    · have EV : Hid (inFB n 65535 = false) := by show _ = _; rw [E]; simp [h1, h2]
      clear E
      have h3 : ¬ n ≤ 65535 := by omega
      go_enter Try.func23, Try.ntmps23
      go_wp2
      go_ret
      exact ⟨by rw [EV.out]; rfl, rfl⟩
  · have EV : Hid (inFB n 65535 = false) := by show _ = _; rw [E]; simp [h1]
    clear E
    go_enter Try.func23, Try.ntmps23
    go_wp2
    go_ret
    exact ⟨by rw [EV.out]; rfl, rfl⟩
set_option maxHeartbeats 400000 in
theorem rtime_v (n : Int) (k : Bool) (h : inFB n 1000000 = k) (w : World) : Calls Try.prog 24 #[.int .i64 n] w fun e w' => e = .returned (.bool k) ∧ w' = w := by
  subst h
  have E : inFB n 1000000 = (decide (0 ≤ n) && decide (n ≤ 1000000)) := rfl
  by_cases h1 : 0 ≤ n
  · by_cases h2 : n ≤ 1000000
    · have EV : Hid (inFB n 1000000 = true) := by show _ = _; rw [E]; simp [h1, h2]
      clear E
      have h3 : n ≤ 1000000 := by omega
      go_enter Try.func24, Try.ntmps24
      go_wp2
      go_ret
      exact ⟨by rw [EV.out]; rfl, rfl⟩
    · have EV : Hid (inFB n 1000000 = false) := by show _ = _; rw [E]; simp [h1, h2]
      clear E
      have h3 : ¬ n ≤ 1000000 := by omega
      go_enter Try.func24, Try.ntmps24
      go_wp2
      go_ret
      exact ⟨by rw [EV.out]; rfl, rfl⟩
  · have EV : Hid (inFB n 1000000 = false) := by show _ = _; rw [E]; simp [h1]
    clear E
    go_enter Try.func24, Try.ntmps24
    go_wp2
    go_ret
    exact ⟨by rw [EV.out]; rfl, rfl⟩
set_option maxHeartbeats 400000 in
theorem rfine_v (n : Int) (k : Bool) (h : inFB n 70368744177664 = k) (w : World) : Calls Try.prog 25 #[.int .i64 n] w fun e w' => e = .returned (.bool k) ∧ w' = w := by
  subst h
  have E : inFB n 70368744177664 = (decide (0 ≤ n) && decide (n ≤ 70368744177664)) := rfl
  by_cases h1 : 0 ≤ n
  · by_cases h2 : n ≤ 70368744177664
    · have EV : Hid (inFB n 70368744177664 = true) := by show _ = _; rw [E]; simp [h1, h2]
      clear E
      have h3 : n ≤ 70368744177664 := by omega
      go_enter Try.func25, Try.ntmps25
      go_wp2
      go_ret
      exact ⟨by rw [EV.out]; rfl, rfl⟩
    · have EV : Hid (inFB n 70368744177664 = false) := by show _ = _; rw [E]; simp [h1, h2]
      clear E
      have h3 : ¬ n ≤ 70368744177664 := by omega
      go_enter Try.func25, Try.ntmps25
      go_wp2
      go_ret
      exact ⟨by rw [EV.out]; rfl, rfl⟩
  · have EV : Hid (inFB n 70368744177664 = false) := by show _ = _; rw [E]; simp [h1]
    clear E
    go_enter Try.func25, Try.ntmps25
    go_wp2
    go_ret
    exact ⟨by rw [EV.out]; rfl, rfl⟩
set_option maxHeartbeats 400000 in
theorem rmark_v (n : Int) (k : Bool) (h : inFB n 4294967295 = k) (w : World) : Calls Try.prog 26 #[.int .i64 n] w fun e w' => e = .returned (.bool k) ∧ w' = w := by
  subst h
  have E : inFB n 4294967295 = (decide (0 ≤ n) && decide (n ≤ 4294967295)) := rfl
  by_cases h1 : 0 ≤ n
  · by_cases h2 : n ≤ 4294967295
    · have EV : Hid (inFB n 4294967295 = true) := by show _ = _; rw [E]; simp [h1, h2]
      clear E
      have h3 : n < 4294967296 := by omega
      go_enter Try.func26, Try.ntmps26
      go_wp2
      go_ret
      exact ⟨by rw [EV.out]; rfl, rfl⟩
    · have EV : Hid (inFB n 4294967295 = false) := by show _ = _; rw [E]; simp [h1, h2]
      clear E
      have h3 : ¬ n < 4294967296 := by omega
      go_enter Try.func26, Try.ntmps26
      go_wp2
      go_ret
      exact ⟨by rw [EV.out]; rfl, rfl⟩
  · have EV : Hid (inFB n 4294967295 = false) := by show _ = _; rw [E]; simp [h1]
    clear E
    go_enter Try.func26, Try.ntmps26
    go_wp2
    go_ret
    exact ⟨by rw [EV.out]; rfl, rfl⟩
end Go.Proofs.Ytdipecepgfaokaa
