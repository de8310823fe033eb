/- The walks of the document's sum of bytes: Entry, Sum. -/
import Derived.Test.YtdipecepgfaokaaN0
import Derived.Test.YtdipecepgfaokaaBW
import Derived.Test.YtdipecepgfaokaaBA
import Derived.Laws.BitsAllLaws
namespace Go.Proofs.Ytdipecepgfaokaa
set_option linter.unusedSimpArgs false
set_option linter.unusedVariables false
open Go.RowKit

/-- A slice reads as these bytes. -/
def RdB (w : World) (v : Value) (xs : List Nat) : Prop :=
  Byt xs ∧ ∃ ao cap, v = .slice ao xs.length cap ∧ xs.length ≤ cap ∧ ∀ j, j < xs.length → ∃ b o, ao = some ⟨b, o, none⟩ ∧ b < w.heap.size ∧ w.cell? ⟨b, o + j, none⟩ = some (.int .u8 ((xs.getD j 0 : Nat) : Int))
theorem RdB.below {w w' : World} {v : Value} {xs : List Nat} (h : RdB w v xs) (hb : Below w.heap.size w w') : RdB w' v xs := by
  obtain ⟨hy, ao, cap, rfl, hc, H⟩ := h
  refine ⟨hy, ao, cap, rfl, hc, fun j hj => ?_⟩
  obtain ⟨b, o, e, hl, hv⟩ := H j hj
  exact ⟨b, o, e, Nat.lt_of_lt_of_le hl hb.size, (hb.cell (p := ⟨b, o + j, none⟩) hl).trans hv⟩
theorem byt_getD {xs : List Nat} (h : Byt xs) (j : Nat) : xs.getD j 0 < 256 := by
  rw [List.getD_eq_getElem?_getD]
  cases e : xs[j]? with
  | none => simp
  | some c => exact h c (List.mem_of_getElem? e)
theorem and1_u32 (m : Nat) (h : m < 4294967296) : bits .and .u32 (m : Int) 1 = ((m % 2 : Nat) : Int) := by
  have := u32_and_nat m 1 h (by decide)
  rw [Nat.and_one_is_mod] at this; exact this
theorem bitN_zero (n : Nat) : bitN 0 n = n := rfl
set_option maxRecDepth 100000 in
set_option maxHeartbeats 1000000 in
theorem entry_c (i : Nat) (hi : i < 256) (w : World) :
    Calls Try.prog 28 #[.int .i64 (i : Int)] w fun e w' => e = .returned (.int .u32 ((ent i : Nat) : Int)) ∧ Below w.heap.size w w' := by
  have hlt : Hid (∀ k, bitN k i < 4294967296) := fun k => bitN_lt k (by omega)
  go_enter Try.func28, Try.ntmps28
  go_wp2_with fail
  go_loopw [3, 6] (fun t3 t6 wr => ∃ k : Nat, k ≤ 8 ∧ t6 = .int .i64 k ∧ t3 = .int .u32 ((bitN k i : Nat) : Int) ∧ wr = w) (fun _ t6 _ => 8 - (intOf t6).toNat)
  case atStart => exact ⟨0, by omega, rfl, by simp [bitN], rfl⟩
  case round =>
    obtain ⟨k, hk, rfl, rfl, rfl⟩ := hrel
    by_cases hlt8 : k < 8
    · obtain ⟨m, hm⟩ : ∃ m, m = bitN k i := ⟨_, rfl⟩
      have hml : m < 4294967296 := by rw [hm]; exact hlt.out k
      have HS : Hid (bitN (k + 1) i = bitS m) := by show _ = _; rw [hm]; rfl
      rw [← hm]
      have ha := and1_u32 m hml
      have hx : bits .xor .u32 ((m : Int) / 2) 3988292384 = (((m / 2) ^^^ 3988292384 : Nat) : Int) := u32_xor_nat (m / 2) 3988292384 (by omega) (by decide)
      clear hlt hm
      by_cases hp : m % 2 = 1
      · have hS : Hid (bitS m = (m / 2) ^^^ 3988292384) := by show _ = _; unfold bitS; rw [if_pos hp]
        rw [hp] at ha
        go_wp2
        go_roundw
        case rel => exact ⟨k + 1, by omega, by go_num, by rw [HS.out, hS.out], trivial⟩
        case measure => simp [intOf]; omega
      · have hS : Hid (bitS m = m / 2) := by show _ = _; unfold bitS; rw [if_neg hp]
        have h0 : m % 2 = 0 := by omega
        rw [h0] at ha
        go_wp2
        go_roundw
        case rel => exact ⟨k + 1, by omega, by go_num, by rw [HS.out, hS.out]; rfl, trivial⟩
        case measure => simp [intOf]; omega
    · have h8 : k = 8 := by omega
      subst h8
      obtain ⟨m, hm⟩ : ∃ m, m = bitN 8 i := ⟨_, rfl⟩
      have HM : Hid (m = ent i) := hm
      rw [← hm]
      clear hlt hm
      go_wp2
      go_ret
      exact ⟨by rw [HM.out]; rfl, Below.refl _ _⟩
theorem entry_v (i n : Nat) (h : ent i = n) (hi : i < 256) (w : World) :
    Calls Try.prog 28 #[.int .i64 (i : Int)] w fun e w' => e = .returned (.int .u32 (n : Int)) ∧ Below w.heap.size w w' := by
  subst h; exact entry_c i hi w
theorem crcF_take (s : Nat) (xs : List Nat) (k : Nat) (h : k < xs.length) : crcF s (xs.take (k + 1)) = stp (crcF s (xs.take k)) (xs.getD k 0) := by
  rw [List.take_add_one, crcF, List.foldl_append, List.getElem?_eq_getElem h, List.getD_eq_getElem?_getD, List.getElem?_eq_getElem h]; rfl
theorem wrap8 (n : Nat) : IntKind.u8.wrap (n : Int) = ((n % 256 : Nat) : Int) := by rw [IntKind.wrap_u8']; omega
theorem wrap8_fix (n : Nat) (h : n < 256) : IntKind.u8.wrap (n : Int) = (n : Int) := by rw [IntKind.wrap_u8']; omega
theorem xor_max (n : Nat) (h : n < 4294967296) : 4294967295 ^^^ n = 4294967295 - n := by
  have h1 : ((BitVec.allOnes 32) ^^^ (BitVec.ofNat 32 n)).toNat = (~~~ (BitVec.ofNat 32 n)).toNat := by rw [BitVec.allOnes_xor]
  rw [BitVec.toNat_xor, BitVec.toNat_not, BitVec.toNat_allOnes, BitVec.toNat_ofNat, Nat.mod_eq_of_lt (show n < 2 ^ 32 from h)] at h1
  exact h1
theorem not_u32 (n : Nat) (h : n < 4294967296) : bits .xor .u32 IntKind.u32.max (n : Int) = ((4294967295 - n : Nat) : Int) := by
  rw [show IntKind.u32.max = ((4294967295 : Nat) : Int) from rfl, u32_xor_nat _ _ (by decide) h, xor_max n h]
set_option maxRecDepth 100000 in
set_option maxHeartbeats 1000000 in
theorem sumB_r (v : Value) (xs : List Nat) (w : World) (h : RdB w v xs) (hx : xs.length ≤ 1000000) :
    Calls Try.prog 13 #[v] w fun e w' => e = .returned (.int .u32 ((crc xs : Nat) : Int)) ∧ Below w.heap.size w w' := by
  obtain ⟨hy, ao, cap, rfl, hc, H⟩ := h
  obtain ⟨S, hS⟩ : ∃ f : Nat → Nat, f = fun k => crcF 4294967295 (xs.take k) := ⟨_, rfl⟩
  have Slt : Hid (∀ k, S k < 4294967296) := fun k => by rw [hS]; exact crcF_lt (fun c hc => hy c (List.mem_of_mem_take hc)) (by decide)
  have Sst : Hid (∀ k, k < xs.length → S (k + 1) = ent (S k % 256 ^^^ xs.getD k 0) ^^^ (S k / 256)) := fun k hk => by rw [hS]; exact crcF_take _ _ _ hk
  have S0 : Hid (S 0 = 4294967295) := by show _ = _; rw [hS]; rfl
  have SN : Hid (crc xs = 4294967295 - S xs.length) := by show _ = _; rw [hS]; unfold crc; simp only [List.take_length]
  have HB := Lib.hid H
  have HY := Lib.hid (byt_getD hy)
  clear hy H hS
  obtain ⟨n, hn⟩ : ∃ n, xs.length = n := ⟨_, rfl⟩
  obtain ⟨X, hX⟩ : ∃ f : Nat → Nat, f = fun j => xs.getD j 0 := ⟨_, rfl⟩
  have hX' : Hid (∀ j, xs.getD j 0 = X j) := fun j => by rw [hX]
  rw [hn] at hx hc HB Sst SN ⊢
  clear hX hn
  go_enter Try.func13, Try.ntmps13
  go_wp2_with fail
  go_loopw [3, 8] (fun t3 t8 wr => ∃ k : Nat, k ≤ n ∧ t8 = .int .i64 k ∧ t3 = .int .u32 ((S k : Nat) : Int) ∧ Hid (Below w.heap.size w wr)) (fun _ t8 _ => n - (intOf t8).toNat)
  case atStart => exact ⟨0, by omega, rfl, by rw [S0.out]; rfl, (by repeat (first | exact Below.refl _ _ | exact Below_of_hid (by assumption) | refine Below.drew ?_ | refine below_drewN ?_ _ | refine Below_putRow ?_ (by first | omega | (simp; done) | (simp; omega) | fail) _ _ | refine Below.alloc ?_ (by first | omega | (simp; done) | (simp; omega) | fail) _ | refine Below.setCell ?_ (by first | omega | (simp; done) | (simp; omega) | fail) _ | refine Below.trans ?_ (Below.mono (by assumption) (by first | omega | (simp; done) | (simp; omega) | fail))))⟩
  case round =>
    obtain ⟨k, hk, rfl, rfl, hb⟩ := hrel
    have hsl := Slt.out k
    by_cases hlt : k < n
    · obtain ⟨b, o, rfl, hbl, hcell⟩ := HB.out k hlt
      have hc' := (hb.out.cell (p := ⟨b, o + k, none⟩) hbl).trans hcell
      have hyk := HY.out k
      have hst := Lib.hid (Sst.out k hlt)
      rw [hX'.out] at hc' hyk hst
      obtain ⟨s, hs⟩ : ∃ s, s = S k := ⟨_, rfl⟩
      obtain ⟨c, hcc⟩ : ∃ c, c = X k := ⟨_, rfl⟩
      rw [← hcc] at hc' hyk hst
      rw [← hs] at hst hsl ⊢
      clear hcell Slt Sst S0 SN HB HY hX' hs hcc
      obtain ⟨i, hi⟩ : ∃ i, s % 256 ^^^ c = i := ⟨_, rfl⟩
      have hil : i < 256 := by rw [← hi]; exact Nat.xor_lt_two_pow (n := 8) (Nat.mod_lt _ (by decide)) hyk
      have h1 := wrap8 s
      have h2 : bits .xor .u8 ((s : Int) % 256) (c : Int) = ((s % 256 ^^^ c : Nat) : Int) := u8_xor_nat (s % 256) c (Nat.mod_lt _ (by decide)) hyk
      rw [hi] at h2 hst
      obtain ⟨e, he⟩ : ∃ e, ent i = e := ⟨_, rfl⟩
      have hel : e < 4294967296 := by rw [← he]; exact bitN_lt 8 (by omega)
      have HE := Lib.hid he
      rw [he] at hst
      have h3 : bits .xor .u32 (e : Int) ((s : Int) / 256) = ((e ^^^ (s / 256) : Nat) : Int) := u32_xor_nat e (s / 256) hel (by omega)
      clear hi he
      clear h1
      go_wp2_with fail
      refine (entry_v _ _ HE.out hil _).mono ?_; rintro e1 w1 ⟨rfl, hb1⟩
      have HB1 := Lib.hid (hb.out.trans (hb1.mono hb.out.size))
      clear hb hb1
      go_wp2_with fail
      go_roundw
      case rel => exact ⟨k + 1, by omega, by go_num, by rw [hst.out], HB1⟩
      case measure => simp [intOf]; omega
    · have h8 : k = n := by omega
      subst h8
      obtain ⟨s, hs⟩ : ∃ s, s = S k := ⟨_, rfl⟩
      rw [← hs] at SN hsl ⊢
      have hnot := not_u32 s hsl
      clear Slt Sst S0 HB HY hX' hs
      go_wp2_with fail
      go_ret
      exact ⟨by rw [SN.out, ← hnot]; rfl, hb.out⟩
end Go.Proofs.Ytdipecepgfaokaa
