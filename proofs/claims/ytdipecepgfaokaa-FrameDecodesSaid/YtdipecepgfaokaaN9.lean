/- The walks of the frames' reader: take, small. -/
import Derived.Test.YtdipecepgfaokaaN7
import Derived.Test.YtdipecepgfaokaaS00
namespace Go.Proofs.Ytdipecepgfaokaa
set_option linter.unusedSimpArgs false
set_option linter.unusedVariables false
open Go.RowKit

theorem or_low8 (q c : Nat) (hc : c < 256) : 256 * q ||| c = 256 * q + c := by
  have := Nat.two_pow_add_eq_or_of_lt (i := 8) (b := c) (by exact hc) q
  exact this.symm
theorem wrap_i64_eq (n : Int) : IntKind.i64.wrap n = wrap64 n := IntWalk.i64_left n
theorem or64 (X : Int) (c : Nat) (hc : c < 256) : bits .or .i64 (wrap64 (X * 256)) (c : Int) = wrap64 (X * 256 + c) := by
  have h2 : (BitVec.ofInt 64 (c : Int)).toNat = c := by
    rw [BitVec.ofInt_natCast, BitVec.toNat_ofNat]; exact Nat.mod_eq_of_lt (by omega)
  obtain ⟨q, hq⟩ : ∃ q : Nat, ((X * 256) % 18446744073709551616) = ((256 * q : Nat) : Int) := ⟨(X % 72057594037927936).toNat, by omega⟩
  have h1 : (BitVec.ofInt 64 (wrap64 (X * 256))).toNat = 256 * q := by
    rw [BitVec.toNat_ofInt]
    have : wrap64 (X * 256) % ((2 ^ 64 : Nat) : Int) = ((256 * q : Nat) : Int) := by
      rw [← hq]; unfold wrap64
      show ((X * 256 + 9223372036854775808) % 18446744073709551616 - 9223372036854775808) % 18446744073709551616 = _
      omega
    rw [this]; rfl
  show IntKind.i64.wrap ((BitVec.ofInt 64 (wrap64 (X * 256)) ||| BitVec.ofInt 64 (c : Int)).toNat : Int) = _
  rw [BitVec.toNat_or, h1, h2, or_low8 q c hc, wrap_i64_eq]
  have e : ((256 * q + c : Nat) : Int) = (X * 256) % 18446744073709551616 + (c : Int) := by rw [hq]; omega
  rw [e]
  unfold wrap64
  omega
theorem wrap_step (s : Int) (c : Int) : wrap64 (wrap64 s * 256 + c) = wrap64 (s * 256 + c) := by unfold wrap64; omega
theorem nb_take (l : List Nat) (k : Nat) (h : k < l.length) : nb (l.take (k + 1)) = nb (l.take k) * 256 + l.getD k 0 := by
  unfold nb
  rw [List.take_add_one, List.foldl_append, List.getElem?_eq_getElem h, List.getD_eq_getElem?_getD, List.getElem?_eq_getElem h]; rfl
set_option maxRecDepth 100000 in
set_option maxHeartbeats 2000000 in
theorem take_c (g : Nat) (v : Value) (l : List Nat) (wd : Nat) (h0 : 0 < wd) (hw : wd ≤ l.length) (hl : l.length ≤ 1000000) (w : World) (B : Blk w g #[v] 63) (h : RdB w v l) :
    Calls Try.prog 29 #[.pointer (some ⟨g, 0, none⟩), .int .i64 (wd : Int)] w fun e w' => (∃ v', e = .returned (.int .i64 (wrap64 (nb (l.take wd)))) ∧ Blk w' g #[v'] 63 ∧ RdB w' v' (l.drop wd)) ∧ OnlyAt g w w' := by
  obtain ⟨hy, ao, cap, rfl, hc, H⟩ := h
  obtain ⟨b, o, rfl, -, -⟩ := H 0 (by omega)
  have H2 : Hid (∀ j, j < l.length → b < w.heap.size ∧ w.cell? ⟨b, o + j, none⟩ = some (.int .u8 ((l.getD j 0 : Nat) : Int))) := by
    intro j hj
    obtain ⟨b', o', e, h1, h2⟩ := H j hj
    cases e
    exact ⟨h1, h2⟩
  have hbg : b ≠ g := by
    rintro rfl
    have h1 := (H2.out 0 (by omega)).2
    rw [B.at] at h1
    rcases o with _ | o
    · cases h1
    · rw [Array.getElem?_eq_none (by simp)] at h1; cases h1
  have HY := Lib.hid (byt_getD hy)
  have HYB := Lib.hid hy
  have c0 : w.cell? ⟨g, 0, none⟩ = some (.slice (some ⟨b, o, none⟩) l.length cap) := B.cell rfl
  have l0 := B.lt
  have f0 := B.frozen
  have HB := Lib.hid B
  obtain ⟨n, hn⟩ : ∃ n, l.length = n := ⟨_, rfl⟩
  rw [hn] at hw hl hc H2 c0 HB
  have hnt := Lib.hid (fun k (hk : k < n) => nb_take l k (by omega))
  obtain ⟨X, hX⟩ : ∃ f : Nat → Nat, f = fun j => l.getD j 0 := ⟨_, rfl⟩
  obtain ⟨S, hS⟩ : ∃ f : Nat → Nat, f = fun j => nb (l.take j) := ⟨_, rfl⟩
  have hX' : Hid (∀ j, l.getD j 0 = X j) := fun j => by rw [hX]
  have hS' : Hid (∀ j, nb (l.take j) = S j) := fun j => by rw [hS]
  have HN := Lib.hid hn
  clear H hX hS B hn hy
  go_enter Try.func29, Try.ntmps29
  go_wp2_with fail
  go_loopw [5, 15] (fun t5 t15 wr => ∃ k : Nat, k ≤ wd ∧ t15 = .int .i64 k ∧ t5 = .int .i64 (wrap64 ((S k : Nat) : Int)) ∧ wr = w) (fun _ t15 _ => wd - (intOf t15).toNat)
  case atStart => exact ⟨0, by omega, rfl, by rw [← hS'.out]; simp [nb, wrap64], rfl⟩
  case round =>
    obtain ⟨k, hk, rfl, rfl, rfl⟩ := hrel
    by_cases hlt : k < wd
    · have hcell := (H2.out k (by omega)).2
      have hyk := HY.out k
      have hst := hnt.out k (by omega)
      rw [hX'.out] at hcell hyk hst
      rw [hS'.out, hS'.out] at hst
      obtain ⟨s, hs⟩ : ∃ s, s = S k := ⟨_, rfl⟩
      obtain ⟨c, hcc⟩ : ∃ c, c = X k := ⟨_, rfl⟩
      rw [← hcc] at hcell hyk hst
      rw [← hs] at hst ⊢
      have hst := Lib.hid hst
      have ho := or64 (wrap64 (s : Int)) c hyk
      rw [wrap_step] at ho
      have HO := Lib.hid ho
      clear HY HYB hnt hX' hS' hs hcc H2 ho
      go_wp2_with fail
      go_roundw
      case rel => exact ⟨k + 1, by omega, by go_num, by rw [HO.out, hst.out]; rfl, trivial⟩
      case measure => first | (simp [intOf]; done) | (simp [intOf]; omega)
    · have h8 : k = wd := by omega
      subst h8
      have hss := Lib.hid (hS'.out k)
      obtain ⟨s, hs⟩ : ∃ s, s = S k := ⟨_, rfl⟩
      rw [← hs] at hss ⊢
      have hwn : (k : Int) ≤ (n : Int) := by omega
      have hwc : (k : Int) ≤ (cap : Int) := by omega
      clear HY hnt hX' hS' hs
      go_wp2_with fail
      all_goals go_ret
      all_goals have hcellk : ∀ j, k + j < n → ∀ u, (wr.setCell ⟨g, 0, none⟩ u).cell? ⟨b, o + (k + j), none⟩ = some (.int .u8 ((l.getD (k + j) 0 : Nat) : Int)) := fun j hj u => by rw [World.cell?_setCell_other _ _ _ _ (by simp)]; exact (H2.out (k + j) hj).2
      all_goals refine ⟨⟨by rw [hss.out]; rfl, _, (HB.out.setCell_same 0 _), ?_⟩, OnlyAt.refl.setCell 0 _⟩
      all_goals refine ⟨fun c hc => HYB.out c (List.mem_of_mem_drop hc), some ⟨b, _, none⟩, _, by rw [List.length_drop, HN.out], by rw [List.length_drop, HN.out]; omega, fun j hj => ?_⟩
      all_goals rw [List.length_drop, HN.out] at hj
      · exfalso; omega
      · refine ⟨b, _, rfl, by rw [World.size_setCell]; exact (H2.out (k + j) (by omega)).1, ?_⟩
        rw [Nat.add_assoc, hcellk j (by omega)]
        congr 3
        rw [List.getD_eq_getElem?_getD, List.getD_eq_getElem?_getD, List.getElem?_drop]
set_option maxHeartbeats 400000 in
theorem small_c (g : Nat) (v : Value) (l : List Nat) (hw : 4 ≤ l.length) (hl : l.length ≤ 1000000) (w : World) (B : Blk w g #[v] 63) (h : RdB w v l) :
    Calls Try.prog 30 #[.pointer (some ⟨g, 0, none⟩)] w fun e w' => (∃ v', e = .returned (.int .i64 (wrap32 (nb (l.take 4)))) ∧ Blk w' g #[v'] 63 ∧ RdB w' v' (l.drop 4)) ∧ OnlyAt g w w' := by
  go_enter Try.func30, Try.ntmps30
  go_wp2_with fail
  refine Calls.mono (take_c g v l 4 (by decide) hw hl _ B h) ?_; rintro e w1 ⟨⟨v', rfl, B1, h1⟩, ho⟩
  go_wp2_with fail
  go_ret
  refine ⟨⟨v', ?_, B1, h1⟩, ho⟩
  refine congrArg (fun z => Ending.returned (Value.int .i64 z)) ?_
  show wrap64 (wrap32 (wrap64 _)) = wrap32 _
  unfold wrap64 wrap32
  omega
end Go.Proofs.Ytdipecepgfaokaa
