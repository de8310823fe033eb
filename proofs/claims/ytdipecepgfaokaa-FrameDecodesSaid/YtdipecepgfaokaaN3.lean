/- The walks of put: a number's bytes behind a slice of the call's own. The program's and the document's. -/
import Derived.Test.YtdipecepgfaokaaN2
namespace Go.Proofs.Ytdipecepgfaokaa
set_option linter.unusedSimpArgs false
set_option linter.unusedVariables false
open Go.RowKit

theorem be_take (n : Int) : ∀ (wd d : Nat), d + 1 ≤ wd → (be wd n).take (wd - d) = (be wd n).take (wd - (d + 1)) ++ [((n / ((256 ^ d : Nat) : Int)) % 256).toNat] := by
  intro wd
  induction wd with
  | zero => intro d h; omega
  | succ w ih =>
    intro d h
    by_cases e : d = w
    · subst e
      rw [show d + 1 - d = 0 + 1 by omega, show d + 1 - (d + 1) = 0 by omega]; rfl
    · rw [show w + 1 - d = (w - d) + 1 by omega, show w + 1 - (d + 1) = (w - (d + 1)) + 1 by omega]
      show _ :: _ = (_ :: _) ++ _
      rw [List.cons_append, ih d (by omega)]
theorem pow_byte (d : Nat) : (2 : Int) ^ (8 * d) = ((256 ^ d : Nat) : Int) := by
  have h : 2 ^ (8 * d) = 256 ^ d := by rw [Nat.pow_mul]
  rw [← h, Int.natCast_pow]; rfl
theorem be_mod (n : Int) : ∀ w : Nat, w ≤ 8 → be w (n % 18446744073709551616) = be w n := by
  have one : ∀ j : Nat, j < 8 → ((n % 18446744073709551616) / ((256 ^ j : Nat) : Int)) % 256 = (n / ((256 ^ j : Nat) : Int)) % 256 := by
    intro j hj
    rcases j with _ | _ | _ | _ | _ | _ | _ | _ | j
    all_goals first | omega | (simp only [Nat.reducePow, Nat.reduceAdd]; omega)
  intro w
  induction w with
  | zero => intro _; rfl
  | succ w ih => intro h; rw [be, be, ih (by omega), one w (by omega)]
set_option maxRecDepth 100000 in
set_option maxHeartbeats 1000000 in
theorem put_c (B : Nat) (v : Value) (xs : List Nat) (n : Int) (wd : Nat) (hw : wd ≤ 8) (w : World) (h : OwnB w B v xs) (hB : B ≤ w.heap.size) (hx : xs.length ≤ 1000000) :
    Calls Try.prog 16 #[v, .int .i64 n, .int .i64 (wd : Int)] w fun e w' => (∃ v', e = .returned v' ∧ OwnB w' B v' (xs ++ be wd n)) ∧ Below B w w' := by
  obtain ⟨i0, hi, hz0, hz1, hz2⟩ := info_parts infoU8
  have H := Lib.hid h
  clear h
  go_enter Try.func16, Try.ntmps16
  go_wp2_with fail
  go_loopw [0, 7] (fun t0 t7 wr => ∃ d : Nat, d ≤ wd ∧ t7 = .int .i64 ((d : Int) - 1) ∧ Hid (OwnB wr B t0 (xs ++ (be wd n).take (wd - d))) ∧ Hid (Below B w wr)) (fun _ t7 _ => (intOf t7 + 1).toNat)
  case atStart => exact ⟨wd, by omega, by go_num, by rw [Nat.sub_self, List.take_zero, List.append_nil]; exact H, Below.refl _ _⟩
  case round =>
    obtain ⟨d, hd, rfl, hown, hb⟩ := hrel
    by_cases hlt : 0 < d
    · obtain ⟨d, rfl⟩ : ∃ d', d = d' + 1 := ⟨d - 1, by omega⟩
      have hT := be_take n wd d hd
      obtain ⟨c, hc⟩ : ∃ c, ((n / ((256 ^ d : Nat) : Int)) % 256).toNat = c := ⟨_, rfl⟩
      have hcl : c < 256 := by omega
      have hci : n / 2 ^ (8 * d) % 256 = (c : Int) := by rw [pow_byte]; omega
      rw [hc] at hT
      clear hc
      obtain ⟨v', w1, hr, hO, hb2⟩ := append_bytes (hown.out.alloc (Obj.cells #[.int .u8 (c : Int)] 5)) (by have := hb.out.size; simp; omega) (by rw [List.length_append, List.length_take]; omega) ⟨wr.heap.size, 0, none⟩ 1 [c] (by intro z hz; simp at hz; omega) (by simp) (by simp) (new1b wr c _)
      have hrh := Lib.hid hr
      clear hr
      go_wp2_with (first
        | (at_builtin; refine wpList_append_run rfl _ _ 30 rfl hrh.out rfl rfl ?_)
        | go_in)
      have HO : Hid (OwnB w1 B v' (xs ++ (be wd n).take (wd - d))) := by show OwnB _ _ _ _; rw [hT, ← List.append_assoc]; exact .inl hO
      have hb2 : Hid (Below B w w1) := (hb.out.alloc (Nat.le_trans hB hb.out.size) _).trans hb2
      clear hrh hO hown hb
      go_wp2_with fail
      go_roundw
      case rel => exact ⟨d, by omega, by go_num, HO, hb2⟩
      case measure => first | (simp [intOf]; done) | (simp [intOf]; omega)
    · have h8 : d = 0 := by omega
      subst h8
      go_wp2_with fail
      go_ret
      exact ⟨⟨_, rfl, by have := hown.out; rw [Nat.sub_zero, List.take_of_length_le (by rw [be_length]; exact Nat.le_refl _)] at this; exact this⟩, hb.out⟩
theorem put_h (B : Nat) (v : Value) (xs : List Nat) (n : Int) (wd : Nat) (hw : wd ≤ 8) (w : World) (h : Hid (OwnB w B v xs)) (hB : B ≤ w.heap.size) (hx : xs.length ≤ 1000000) :
    Calls Try.prog 16 #[v, .int .i64 n, .int .i64 (wd : Int)] w fun e w' => (∃ v', e = .returned v' ∧ Hid (OwnB w' B v' (xs ++ be wd n))) ∧ Below B w w' := put_c B v xs n wd hw w h hB hx
set_option maxRecDepth 100000 in
set_option maxHeartbeats 1000000 in
theorem putB_r (B : Nat) (v : Value) (xs : List Nat) (n : Int) (wd : Nat) (hw : wd ≤ 8) (hn : 0 ≤ n ∧ n < 18446744073709551616) (w : World) (h : OwnB w B v xs) (hB : B ≤ w.heap.size) (hx : xs.length ≤ 1000000) :
    Calls Try.prog 18 #[v, .int .u64 n, .int .i64 (wd : Int)] w fun e w' => (∃ v', e = .returned v' ∧ OwnB w' B v' (xs ++ be wd n)) ∧ Below B w w' := by
  obtain ⟨i0, hi, hz0, hz1, hz2⟩ := info_parts infoU8
  have H := Lib.hid h
  clear h
  go_enter Try.func18, Try.ntmps18
  go_wp2_with fail
  go_loopw [0, 7] (fun t0 t7 wr => ∃ d : Nat, d ≤ wd ∧ t7 = .int .i64 ((d : Int) - 1) ∧ Hid (OwnB wr B t0 (xs ++ (be wd n).take (wd - d))) ∧ Hid (Below B w wr)) (fun _ t7 _ => (intOf t7 + 1).toNat)
  case atStart => exact ⟨wd, by omega, by go_num, by rw [Nat.sub_self, List.take_zero, List.append_nil]; exact H, Below.refl _ _⟩
  case round =>
    obtain ⟨d, hd, rfl, hown, hb⟩ := hrel
    by_cases hlt : 0 < d
    · obtain ⟨d, rfl⟩ : ∃ d', d = d' + 1 := ⟨d - 1, by omega⟩
      have hT := be_take n wd d hd
      obtain ⟨c, hc⟩ : ∃ c, ((n / ((256 ^ d : Nat) : Int)) % 256).toNat = c := ⟨_, rfl⟩
      have hcl : c < 256 := by omega
      have hci : n / 2 ^ (8 * d) % 256 = (c : Int) := by rw [pow_byte]; omega
      rw [hc] at hT
      clear hc
      obtain ⟨v', w1, hr, hO, hb2⟩ := append_bytes (hown.out.alloc (Obj.cells #[.int .u8 (c : Int)] 5)) (by have := hb.out.size; simp; omega) (by rw [List.length_append, List.length_take]; omega) ⟨wr.heap.size, 0, none⟩ 1 [c] (by intro z hz; simp at hz; omega) (by simp) (by simp) (new1b wr c _)
      have hrh := Lib.hid hr
      clear hr
      go_wp2_with (first
        | (at_builtin; refine wpList_append_run rfl _ _ 30 rfl hrh.out rfl rfl ?_)
        | go_in)
      have HO : Hid (OwnB w1 B v' (xs ++ (be wd n).take (wd - d))) := by show OwnB _ _ _ _; rw [hT, ← List.append_assoc]; exact .inl hO
      have hb2 : Hid (Below B w w1) := (hb.out.alloc (Nat.le_trans hB hb.out.size) _).trans hb2
      clear hrh hO hown hb
      go_wp2_with fail
      go_roundw
      case rel => exact ⟨d, by omega, by go_num, HO, hb2⟩
      case measure => first | (simp [intOf]; done) | (simp [intOf]; omega)
    · have h8 : d = 0 := by omega
      subst h8
      go_wp2_with fail
      go_ret
      exact ⟨⟨_, rfl, by have := hown.out; rw [Nat.sub_zero, List.take_of_length_le (by rw [be_length]; exact Nat.le_refl _)] at this; exact this⟩, hb.out⟩
end Go.Proofs.Ytdipecepgfaokaa
