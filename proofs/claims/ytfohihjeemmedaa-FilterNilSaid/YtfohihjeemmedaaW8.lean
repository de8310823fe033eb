/- The walks of package wide's up, down: shifts of sizes. -/
import Derived.Test.YtfohihjeemmedaaW6
import Derived.Test.YtfohihjeemmedaaD0
import Derived.Laws.Bits64b
namespace Go.Proofs.Ytfohihjeemmedaa
open Go.RowKit

theorem shl_u64 (x r : Nat) : IntKind.u64.wrap ((x : Int) * 2 ^ r) = ((x * 2 ^ r % 18446744073709551616 : Nat) : Int) := by
  have e : ((x * 2 ^ r : Nat) : Int) = (x : Int) * 2 ^ r := by rw [Int.natCast_mul, Int.natCast_pow]; rfl
  rw [IntKind.wrap_u64, ← e]; omega
theorem blk_down {w : World} {b n M i v : Nat} {t : TypeId} (h : Blk w b (rowW n (M / 2 ^ (64 * (i + 1)) * 2 ^ (64 * (i + 1)))) t) (hv : v = wdn M i) :
    Blk (w.setCell ⟨b, i, none⟩ (.int .u64 (v : Int))) b (rowW n (M / 2 ^ (64 * i) * 2 ^ (64 * i))) t := by
  subst hv; rw [← setw_down, ← rowW_set _ _ _ _ (wdn_lt M i)]; exact h.setCell_same _ _
theorem blk_down2 {w : World} {b n M i v : Nat} {t : TypeId} {x : Value} (h : Blk w b (rowW n (M / 2 ^ (64 * (i + 1)) * 2 ^ (64 * (i + 1)))) t) (hv : v = wdn M i) :
    Blk ((w.setCell ⟨b, i, none⟩ x).setCell ⟨b, i, none⟩ (.int .u64 (v : Int))) b (rowW n (M / 2 ^ (64 * i) * 2 ^ (64 * i))) t := by
  subst hv; rw [← setw_down, ← rowW_set _ _ _ _ (wdn_lt M i)]
  have := (h.setCell_same i x).setCell_same i (.int .u64 (wdn M i : Int))
  exact this.of_eq (by apply Array.ext_getElem?; intro j; by_cases hj : i = j <;> simp [hj, Array.getElem?_setIfInBounds])
theorem or_u64 (a c g : Nat) (x : Int) (hx : x = (c : Int)) (ha : a < 18446744073709551616) (hc : c < 18446744073709551616) : bits .or .u64 (a : Int) (x / 2 ^ g) = ((a ||| (c / 2 ^ g) : Nat) : Int) := by
  have e : x / 2 ^ g = ((c / 2 ^ g : Nat) : Int) := by rw [hx, Int.natCast_ediv, Int.natCast_pow]; rfl
  rw [e, bits_or_u64_nat _ _ ha (Nat.lt_of_le_of_lt (Nat.div_le_self _ _) hc)]
theorem blk_fill {w : World} {b n M f v : Nat} {t : TypeId} (h : Blk w b (rowW n (M % 2 ^ (64 * f))) t) (hv : v = wdn M f) :
    Blk (w.setCell ⟨b, f, none⟩ (.int .u64 (v : Int))) b (rowW n (M % 2 ^ (64 * (f + 1)))) t := by
  subst hv; rw [← rowW_fill]; exact h.setCell_same _ _
theorem blk_fill2 {w : World} {b n M f v : Nat} {t : TypeId} {x : Value} (h : Blk w b (rowW n (M % 2 ^ (64 * f))) t) (hv : v = wdn M f) :
    Blk ((w.setCell ⟨b, f, none⟩ x).setCell ⟨b, f, none⟩ (.int .u64 (v : Int))) b (rowW n (M % 2 ^ (64 * (f + 1)))) t := by
  subst hv; rw [← rowW_fill]
  have := (h.setCell_same f x).setCell_same f (.int .u64 (wd M f))
  exact this.of_eq (by apply Array.ext_getElem?; intro j; by_cases hj : f = j <;> simp [hj, Array.getElem?_setIfInBounds])
theorem mod64_lt (x : Nat) : x % 18446744073709551616 < 18446744073709551616 := by omega
set_option maxRecDepth 100000 in
set_option maxHeartbeats 1000000 in
/-- (*size).up. -/
theorem up_c (b o N k : Nat) (w : World) (hk : k < 1024) (hx : RowAt w b o N) :
    Calls Try.prog 92 #[.pointer (some ⟨b, o, none⟩), .int .i64 (k : Int)] w fun e w' => e = .returned (.agg (rowW 16 (N * 2 ^ k))) ∧ Below w.heap.size w w' := by
  obtain ⟨d, r, hd, hr, hkd⟩ : ∃ d r, d < 16 ∧ r < 64 ∧ k = 64 * d + r := ⟨k / 64, k % 64, by omega, by omega, by omega⟩
  have HK := Lib.hid hkd
  have n1 : k / 64 = d := by omega
  have n2 : k % 64 = r := by omega
  have q3 : (k : Int) / 64 = d := by omega
  have q4 : (k : Int) % 64 = r := by omega
  have q1 : (k : Int).tdiv 64 = d := by rw [Int.tdiv_eq_ediv_of_nonneg (by omega)]; exact q3
  have q2 : (k : Int).tmod 64 = r := by rw [Int.tmod_eq_emod_of_nonneg (by omega)]; exact q4
  clear hkd
  go_enter Try.func92, Try.ntmps92
  go_wp2
  go_loopw [6] (fun i wr => ∃ j : Nat, d ≤ j ∧ j ≤ 16 ∧ i = .int .i64 ((j : Int) - 1) ∧ Below w.heap.size w wr ∧ Blk wr (w.heap.size + 1) (rowW 16 (N * 2 ^ k / 2 ^ (64 * j) * 2 ^ (64 * j))) 66 ∧ Blk wr w.heap.size (rowW 16 0) 66) (fun i _ => (intOf i + 1).toNat)
  case atStart =>
    refine ⟨16, by omega, by omega, rfl, ((Below.refl _ _).alloc (Nat.le_refl _) _).alloc (by simp) _, ?_, ?_⟩
    · have := rowW_mod 16 (N * 2 ^ k / 2 ^ (64 * 16) * 2 ^ (64 * 16))
      rw [Nat.mul_mod_left] at this
      rw [← this, rowW_zero16]; exact Blk.new' _ _ _ (by simp)
    · rw [rowW_zero16]; exact (Blk.new _ _ _).alloc _
  case round =>
    obtain ⟨j, hj0, hj, rfl, hb, h1, h0⟩ := hrel
    by_cases hlt : d < j
    · obtain ⟨i, rfl⟩ : ∃ i, j = i + 1 := ⟨j - 1, by omega⟩
      have c1 : wr.cell? ⟨b, o + (i - d), none⟩ = some (.int .u64 (wd N (i - d))) := (hx.below hb (i - d) (by omega)).1
      have c3 : wr.cell? ⟨w.heap.size + 1, i, none⟩ = some (.int .u64 (wd (N * 2 ^ k / 2 ^ (64 * (i + 1)) * 2 ^ (64 * (i + 1))) i)) := h1.cell (rowW_get _ _ _ (by omega))
      have c4 : wr.frozen? ⟨w.heap.size + 1, i, none⟩ = false := h1.frozen i
      have i1 : (d : Int) ≤ i := by omega
      have i2 : (0 : Int) ≤ (i : Int) - d := by omega
      have i3 : (i : Int) - d < 16 := by omega
      have i4 : (i : Int) < 16 := by omega
      have i5 : wrap64 ((i : Int) - d) = (i : Int) - d := by unfold wrap64; omega
      have i6 : ((i : Int) - d).toNat = i - d := by omega
      have n1 : w.heap.size + 1 ≠ b := by have := hx.lt; omega
      have HB := Lib.hid hb
      have HH1 := Lib.hid h1
      have HH0 := Lib.hid h0
      clear hb h1 h0
      have e0 : ((i + 1 : Nat) : Int) - 1 = (i : Int) := by omega
      rw [e0]
      obtain ⟨v, hv⟩ : ∃ v, v = wdn N (i - d) * 2 ^ r % 18446744073709551616 := ⟨_, rfl⟩
      have s1 : IntKind.u64.wrap (wd N (i - d) * 2 ^ r) = (v : Int) := by rw [hv]; exact shl_u64 _ _
      have hvl := Lib.hid (hv ▸ mod64_lt (wdn N (i - d) * 2 ^ r))
      have HV := Lib.hid hv
      clear hv
      by_cases hr0 : r = 0
      · have hr1 : ¬ 0 < r := by omega
        have hq : Hid (v = wdn (N * 2 ^ k) i) := by
          show _ = _
          rw [HV.out, HK.out, hr0, Nat.pow_zero, Nat.mul_one, Nat.add_zero, Nat.mod_eq_of_lt (wdn_lt _ _)]
          have := wdn_shift N d (i - d)
          rw [show i - d + d = i by omega] at this
          exact this.symm
        clear hr0
        go_wp2
        refine ⟨⟨i, by omega, by omega, rfl, ?_, ?_, ?_⟩, (by first | (simp [intOf]; done) | (simp [intOf]; omega))⟩
        · exact HB.out.setCell (by simp) _
        · exact blk_down HH1.out hq.out
        · exact HH0.out.setCell_other (by simp) _
      · have hr1 : 0 < r := by omega
        by_cases hdi : d < i
        · obtain ⟨m, hm⟩ : ∃ m, i = d + m + 1 := ⟨i - d - 1, by omega⟩
          obtain ⟨g, hg⟩ : ∃ g, g + r = 64 := ⟨64 - r, by omega⟩
          have x0 : IntKind.i64.wrap (d : Int) = d := by rw [IntKind.wrap_i64]; omega
          have x1 : IntKind.i64.wrap ((i : Int) - d) = (i : Int) - d := by rw [IntKind.wrap_i64]; omega
          have x2 : IntKind.i64.wrap ((i : Int) - d - 1) = (m : Int) := by rw [IntKind.wrap_i64]; omega
          have x3 : IntKind.i64.wrap (64 - (r : Int)) = (g : Int) := by rw [IntKind.wrap_i64]; omega
          have x4 : (0 : Int) ≤ (m : Int) := by omega
          have x5 : (m : Int) < 16 := by omega
          have x6 : (0 : Int) ≤ (g : Int) := by omega
          have x7 : (g : Int) < 64 := by omega
          have hdi' : (d : Int) < i := by omega
          have c5 : wr.cell? ⟨b, o + m, none⟩ = some (.int .u64 (wd N m)) := (hx.below HB.out m (by omega)).1
          obtain ⟨v2, hv2⟩ : ∃ v2, v2 = v ||| (wdn N m / 2 ^ g) := ⟨_, rfl⟩
          have y1 : bits .or .u64 (v : Int) (wd N m / 2 ^ g) = (v2 : Int) := by rw [hv2]; exact or_u64 _ _ _ _ rfl hvl.out (wdn_lt _ _)
          have hq : Hid (v2 = wdn (N * 2 ^ k) i) := by
            show _ = _
            have h1 := wdn_up_or N r m (by omega)
            have h2 := wdn_shift (N * 2 ^ r) d (m + 1)
            rw [hv2, HV.out, HK.out, show i - d = m + 1 by omega, show g = 64 - r by omega, h1, ← h2, Nat.mul_assoc, ← Nat.pow_add]
            congr 1
            · congr 2; omega
            · omega
          clear hm hg hv2
          go_wp2
          refine still_tail 18 (by kernel_rfl) (by kernel_rfl) ?_
          simp only [List.take_succ_cons, List.take_zero, List.drop_succ_cons, List.drop_zero]; (repeat still_step); (try refine wpStill_nil ?_)
          go_wp2
          refine ⟨⟨i, by omega, by omega, rfl, ?_, ?_, ?_⟩, (by first | (simp [intOf]; done) | (simp [intOf]; omega))⟩
          · exact ((HB.out.setCell (by simp) _).setCell (by simp) _).drew
          · exact (blk_down2 HH1.out hq.out).drew
          · exact ((HH0.out.setCell_other (by simp) _).setCell_other (by simp) _).drew
        · have hdi' : d = i := by omega
          have hdn : ¬ (d : Int) < i := by omega
          have hq : Hid (v = wdn (N * 2 ^ k) i) := by
            show _ = _
            rw [HV.out, HK.out, hdi', Nat.add_comm, Nat.pow_add, ← Nat.mul_assoc, Nat.sub_self, ← wdn_up0]
            have := wdn_shift (N * 2 ^ r) i 0
            rw [Nat.zero_add] at this
            exact this.symm
          clear hdi'
          go_wp2
          refine ⟨⟨i, by omega, by omega, rfl, ?_, ?_, ?_⟩, (by first | (simp [intOf]; done) | (simp [intOf]; omega))⟩
          · exact HB.out.setCell (by simp) _
          · exact blk_down HH1.out hq.out
          · exact HH0.out.setCell_other (by simp) _
    · have hjd : j = d := by omega
      subst hjd
      have he : N * 2 ^ k / 2 ^ (64 * j) * 2 ^ (64 * j) = N * 2 ^ k := by
        rw [HK.out, Nat.pow_add, Nat.mul_left_comm, Nat.mul_div_cancel_left _ (Nat.two_pow_pos _), Nat.mul_comm]
      rw [he] at h1
      have i1 : ¬ (j : Int) ≤ (j : Int) - 1 := by omega
      have HB := Lib.hid hb
      have HH := Lib.hid (Blk.setRow_same h0 (rowW 16 (N * 2 ^ k)))
      clear hb he
      go_wp2_with (first | (refine wpList_load_row rfl 66 _ rfl _ rfl 66 _ (0,0) _ h1 Try.underlying66 rfl (by rw [rowW_size]; exact info_size) ?_) | (refine wpList_store_row rfl 66 _ _ rfl _ _ rfl rfl 66 _ h0 (by rw [rowW_size]; exact info_size) (by rw [rowW_size, rowW_size]) (rowW_oneCell _ _) ?_))
      exact bodyPost_ret (v := .agg (rowW 16 (N * 2 ^ k))) (by exact results_row (p := 4) (ty := 66) rfl _ _ _ _ _ _ rfl HH.out Try.underlying66 rfl (by rw [rowW_size]; exact info_size)) rfl ⟨rfl, Below_setRow HB.out (by omega) _⟩

theorem shr_u64 (x r : Nat) (y : Int) (hy : y = (x : Int)) : y / 2 ^ r = ((x / 2 ^ r : Nat) : Int) := by
  rw [hy, Int.natCast_ediv, Int.natCast_pow]; rfl
theorem orl_u64 (a c g : Nat) (x : Int) (hx : x = (c : Int)) (ha : a < 18446744073709551616) : bits .or .u64 (a : Int) (IntKind.u64.wrap (x * 2 ^ g)) = ((a ||| (c * 2 ^ g % 18446744073709551616) : Nat) : Int) := by
  rw [hx, shl_u64, bits_or_u64_nat _ _ ha (mod64_lt _)]
/-- Is something lost by a shift of k bits? -/
def lost (N k : Nat) : Bool := decide (N % 2 ^ k ≠ 0)
/-- Is something left over below word m? -/
def left? (N m : Nat) : Bool := decide (N % 2 ^ (64 * m) ≠ 0)
theorem left_succ (N m : Nat) : left? N (m + 1) = (left? N m || (wd N m != 0)) := by
  unfold left?
  have h : (wd N m != 0) = decide (wdn N m ≠ 0) := by unfold wd; by_cases h : wdn N m = 0 <;> simp [h]
  rw [h, Bool.eq_iff_iff]
  simp only [decide_eq_true_eq, Bool.or_eq_true]
  exact rest_bit N m

set_option maxRecDepth 100000 in
set_option maxHeartbeats 1000000 in
/-- (*size).down. -/
theorem down_c (b o N k : Nat) (w : World) (hN : N < W16) (hk : k ≤ 1024) (hx : RowAt w b o N) :
    Calls Try.prog 95 #[.pointer (some ⟨b, o, none⟩), .int .i64 (k : Int)] w fun e w' => e = .returned (.tuple #[.agg (rowW 16 (N / 2 ^ k)), .bool (lost N k)]) ∧ Below w.heap.size w w' := by
  obtain ⟨d, r, hd, hr, hkd⟩ : ∃ d r, d ≤ 16 ∧ r < 64 ∧ k = 64 * d + r := ⟨k / 64, k % 64, by omega, by omega, by omega⟩
  have HK := Lib.hid hkd
  have HN := Lib.hid hN
  have n1 : k / 64 = d := by omega
  have n2 : k % 64 = r := by omega
  have q3 : (k : Int) / 64 = d := by omega
  have q4 : (k : Int) % 64 = r := by omega
  have q1 : (k : Int).tdiv 64 = d := by rw [Int.tdiv_eq_ediv_of_nonneg (by omega)]; exact q3
  have q2 : (k : Int).tmod 64 = r := by rw [Int.tmod_eq_emod_of_nonneg (by omega)]; exact q4
  have q5 : min (d : Int) 16 = d := by omega
  have q6 : (d : Int) ≤ 16 := by omega
  clear hkd hN
  go_enter Try.func95, Try.ntmps95
  go_wp2
  go_loopw [7, 13] (fun s i wr => ∃ m : Nat, m ≤ d ∧ i = .int .i64 (m : Int) ∧ s = .bool (left? N m) ∧ wr = ((w.alloc (.cells (rowW 16 0) 66)).alloc (.cells (rowW 16 0) 66))) (fun _ i _ => (16 - intOf i).toNat)
  case atStart => exact ⟨0, by omega, rfl, by simp [left?, Nat.mod_one], rfl⟩
  case round =>
    obtain ⟨m, hm, rfl, rfl, rfl⟩ := hrel
    by_cases hlt : m < d
    · have c1 := (hx m (by omega)).1
      have hb1 := hx.lt
      have i1 : (m : Int) < d := by omega
      have i2 : (m : Int) < 16 := by omega
      have hs := left_succ N m
      generalize left? N m = t at hs ⊢
      have HS := Lib.hid hs
      clear hs
      cases t with
      | true =>
        go_wp2
        exact ⟨⟨m + 1, by omega, by go_num, by rw [HS.out]; rfl, trivial⟩, (by first | (simp [intOf]; done) | (simp [intOf]; omega))⟩
      | false =>
        go_wp2
        exact ⟨⟨m + 1, by omega, by go_num, by rw [HS.out]; rfl, trivial⟩, (by first | (simp [intOf]; done) | (simp [intOf]; omega))⟩
    · have hmd : m = d := by omega
      subst hmd
      have i1 : ¬ (m : Int) < m := by omega
      have hb1 := hx.lt
      go_wp2
      go_loopw [9] (fun i wr => ∃ e : Nat, m ≤ e ∧ e ≤ 16 ∧ i = .int .i64 (e : Int) ∧ Below w.heap.size w wr ∧ Blk wr (w.heap.size + 1) (rowW 16 (N / 2 ^ k % 2 ^ (64 * (e - m)))) 66 ∧ Blk wr w.heap.size (rowW 16 0) 66) (fun i _ => (16 - intOf i).toNat)
      case atStart =>
        refine ⟨m, by omega, by omega, rfl, ((Below.refl _ _).alloc (Nat.le_refl _) _).alloc (by simp) _, ?_, (Blk.new _ _ _).alloc _⟩
        rw [Nat.sub_self, show N / 2 ^ k % 2 ^ (64 * 0) = 0 by simp [Nat.mod_one]]; exact Blk.new' _ _ _ (by simp)
      case round =>
        obtain ⟨i, hi0, hi, rfl, hb, h1, h0⟩ := hrel
        by_cases hlt : i < 16
        · obtain ⟨f, hf⟩ : ∃ f, f + m = i := ⟨i - m, by omega⟩
          have c1 : wr.cell? ⟨b, o + i, none⟩ = some (.int .u64 (wd N i)) := (hx.below hb i (by omega)).1
          have c3 : wr.cell? ⟨w.heap.size + 1, f, none⟩ = some (.int .u64 (wd (N / 2 ^ k % 2 ^ (64 * (i - m))) f)) := h1.cell (rowW_get _ _ _ (by omega))
          have c4 : wr.frozen? ⟨w.heap.size + 1, f, none⟩ = false := h1.frozen f
          have i1 : (i : Int) < 16 := by omega
          have i2 : (i : Int) - m = f := by omega
          have i3 : (f : Int) < 16 := by omega
          have i4 : (0 : Int) ≤ (f : Int) := by omega
          have i5 : wrap64 ((i : Int) - m) = f := by unfold wrap64; omega
          have i6 : (0 : Int) ≤ (i : Int) := by omega
          have x0 : IntKind.i64.wrap ((i : Int) - m) = f := by rw [IntKind.wrap_i64]; omega
          have n1 : w.heap.size + 1 ≠ b := by omega
          obtain ⟨v, hv⟩ : ∃ v, v = wdn N i / 2 ^ r := ⟨_, rfl⟩
          have s1 : wd N i / 2 ^ r = (v : Int) := by rw [hv]; exact shr_u64 _ _ _ rfl
          have hvl : Hid (v < 18446744073709551616) := by show v < _; rw [hv]; exact Nat.lt_of_le_of_lt (Nat.div_le_self _ _) (wdn_lt _ _)
          have HV := Lib.hid hv
          have HX : Hid (wdn (N / 2 ^ k) f = wdn N i / 2 ^ r + wdn N (i + 1) * 2 ^ (64 - r) % 18446744073709551616) := by
            show _ = _
            rw [HK.out, Nat.pow_add, ← Nat.div_div_eq_div_mul, wdn_down _ r f (by omega), wdn_drop, wdn_drop, show f + m = i by omega, show f + 1 + m = i + 1 by omega]
          have HO : Hid ((wdn N i / 2 ^ r) ||| (wdn N (i + 1) * 2 ^ (64 - r) % 18446744073709551616) = wdn (N / 2 ^ k) f) := by
            show _ = _
            rw [HK.out, Nat.pow_add, ← Nat.div_div_eq_div_mul, ← wdn_down_or _ r f (by omega), wdn_drop, wdn_drop, show f + m = i by omega, show f + 1 + m = i + 1 by omega]
          have HB := Lib.hid hb
          have HH1 := Lib.hid h1
          have HH0 := Lib.hid h0
          have HF := Lib.hid hf
          clear hb h1 h0 hv hf
          by_cases hr0 : r = 0
          · have hr1 : ¬ 0 < r := by omega
            have hq : Hid (v = wdn (N / 2 ^ k) f) := by
              show _ = _
              rw [HV.out, HX.out, hr0, Nat.mul_mod_left, Nat.add_zero]
            clear hr0
            go_wp2
            refine ⟨⟨i + 1, by omega, by omega, by go_num, HB.out.setCell (by simp) _, ?_, HH0.out.setCell_other (by simp) _⟩, (by first | (simp [intOf]; done) | (simp [intOf]; omega))⟩
            have h3 := HF.out
            have e1 : i - m = f := by omega
            have e2 : i + 1 - m = f + 1 := by omega
            have h4 := HH1.out
            rw [e1] at h4
            rw [e2]
            exact blk_fill h4 hq.out
          · have hr1 : 0 < r := by omega
            clear hr0
            by_cases hi1 : i + 1 < 16
            · have c5 : wr.cell? ⟨b, o + (i + 1), none⟩ = some (.int .u64 (wd N (i + 1))) := (hx.below HB.out (i + 1) (by omega)).1
              obtain ⟨g, hg⟩ : ∃ g, g + r = 64 := ⟨64 - r, by omega⟩
              have j1 : (i : Int) + 1 < 16 := by omega
              have j2 : (0 : Int) ≤ (i : Int) + 1 := by omega
              have x1 : IntKind.i64.wrap ((i : Int) + 1) = (i : Int) + 1 := by rw [IntKind.wrap_i64]; omega
              have x3 : IntKind.i64.wrap (64 - (r : Int)) = (g : Int) := by rw [IntKind.wrap_i64]; omega
              have x4 : IntKind.i64.wrap (m : Int) = (m : Int) := by rw [IntKind.wrap_i64]; omega
              have x5 : IntKind.i64.wrap (f : Int) = (f : Int) := by rw [IntKind.wrap_i64]; omega
              have x6 : (0 : Int) ≤ (g : Int) := by omega
              have x7 : (g : Int) < 64 := by omega
              obtain ⟨v2, hv2⟩ : ∃ v2, v2 = v ||| (wdn N (i + 1) * 2 ^ g % 18446744073709551616) := ⟨_, rfl⟩
              have y1 : bits .or .u64 (v : Int) (IntKind.u64.wrap (wd N (i + 1) * 2 ^ g)) = (v2 : Int) := by rw [hv2]; exact orl_u64 _ _ _ _ rfl hvl.out
              have hq : Hid (v2 = wdn (N / 2 ^ k) f) := by
                show _ = _
                rw [hv2, HV.out, show g = 64 - r by omega, HO.out]
              clear hg hv2
              go_wp2
              refine still_tail 18 (by kernel_rfl) (by kernel_rfl) ?_
              simp only [List.take_succ_cons, List.take_zero, List.drop_succ_cons, List.drop_zero]; (repeat still_step); (try refine wpStill_nil ?_)
              go_wp2
              refine ⟨⟨i + 1, by omega, by omega, by go_num, ((HB.out.setCell (by simp) _).setCell (by simp) _).drew, ?_, ((HH0.out.setCell_other (by simp) _).setCell_other (by simp) _).drew⟩, (by first | (simp [intOf]; done) | (simp [intOf]; omega))⟩
              have h3 := HF.out
              have e1 : i - m = f := by omega
              have e2 : i + 1 - m = f + 1 := by omega
              have h4 := HH1.out
              rw [e1] at h4
              rw [e2]
              exact (blk_fill2 h4 hq.out).drew
            · have hi15 : i = 15 := by omega
              have hq : Hid (v = wdn (N / 2 ^ k) f) := by
                show _ = _
                have h0 : wdn N (i + 1) = 0 := wdn_eq_zero_of_lt N (i + 1) 16 (LtW.of16 HN.out) (by omega)
                rw [HV.out, HX.out, h0, Nat.zero_mul, Nat.zero_mod, Nat.add_zero]
              have j1 : ¬ (i : Int) + 1 < 16 := by omega
              clear hi15
              go_wp2
              refine ⟨⟨i + 1, by omega, by omega, by go_num, HB.out.setCell (by simp) _, ?_, HH0.out.setCell_other (by simp) _⟩, (by first | (simp [intOf]; done) | (simp [intOf]; omega))⟩
              have h3 := HF.out
              have e1 : i - m = f := by omega
              have e2 : i + 1 - m = f + 1 := by omega
              have h4 := HH1.out
              rw [e1] at h4
              rw [e2]
              exact blk_fill h4 hq.out
        · have hi16 : i = 16 := by omega
          have he : N / 2 ^ k % 2 ^ (64 * (i - m)) = N / 2 ^ k := by
            refine Nat.mod_eq_of_lt ?_
            have h3 : LtW N i := LtW.of_eq hi16 HN.out
            rw [Nat.div_lt_iff_lt_mul (Nat.two_pow_pos _), ← Nat.pow_add]
            refine Nat.lt_of_lt_of_le h3 (pow2_le _ _ ?_)
            rw [HK.out]; omega
          rw [he] at h1
          have HB := Lib.hid hb
          have HH := Lib.hid (Blk.setRow_same h0 (rowW 16 (N / 2 ^ k)))
          have hR := rest_part N m r (by omega)
          rw [← HK.out] at hR
          have HR := Lib.hid hR
          have i2 : ¬ (i : Int) < 16 := by omega
          clear hb he hR hlt
          by_cases hmr : m < 16 ∧ 0 < r
          · have c1 : wr.cell? ⟨b, o + m, none⟩ = some (.int .u64 (wd N m)) := (hx.below HB.out m hmr.1).1
            obtain ⟨g, hg⟩ : ∃ g, g + r = 64 := ⟨64 - r, by omega⟩
            have j1 : (m : Int) < 16 := by omega
            have j2 : 0 < r := hmr.2
            have x3 : wrap64 (64 - (r : Int)) = (g : Int) := by unfold wrap64; omega
            obtain ⟨v, hv⟩ : ∃ v, v = wdn N m * 2 ^ g % 18446744073709551616 := ⟨_, rfl⟩
            have s1 : IntKind.u64.wrap (wd N m * 2 ^ g) = (v : Int) := by rw [hv]; exact shl_u64 _ _
            have s2 : IntKind.u64.wrap (wd N m * 2 ^ (64 - r)) = (v : Int) := by rw [show 64 - r = g by omega]; exact s1
            have HF : Hid (lost N k = (left? N m || ((v : Int) != 0))) := by
              show _ = _
              have h5 : ((v : Int) != 0) = decide (v ≠ 0) := by by_cases h : v = 0 <;> simp [h]
              rw [h5, Bool.eq_iff_iff]
              unfold left? lost
              simp only [decide_eq_true_eq, Bool.or_eq_true]
              rw [hv, show g = 64 - r by omega]
              exact HR.out
            clear hv hg hmr
            generalize left? N m = t at HF ⊢
            cases t with
            | true =>
              go_wp2_with (first | (refine wpList_load_row rfl 66 _ rfl _ rfl 66 _ (0,0) _ h1 Try.underlying66 rfl (by rw [rowW_size]; exact info_size) ?_) | (refine wpList_store_row rfl 66 _ _ rfl _ _ rfl rfl 66 _ h0 (by rw [rowW_size]; exact info_size) (by rw [rowW_size, rowW_size]) (rowW_oneCell _ _) ?_))
              exact bodyPost_ret (v := .tuple #[.agg (rowW 16 (N / 2 ^ k)), .bool true]) (by exact results_row_tmp (p := 4) (u := 5) (ty := 66) rfl _ _ _ _ _ _ rfl HH.out Try.underlying66 rfl (by rw [rowW_size]; exact info_size)) rfl ⟨by rw [HF.out]; rfl, Below_setRow HB.out (by omega) _⟩
            | false =>
              go_wp2_with (first | (refine wpList_load_row rfl 66 _ rfl _ rfl 66 _ (0,0) _ h1 Try.underlying66 rfl (by rw [rowW_size]; exact info_size) ?_) | (refine wpList_store_row rfl 66 _ _ rfl _ _ rfl rfl 66 _ h0 (by rw [rowW_size]; exact info_size) (by rw [rowW_size, rowW_size]) (rowW_oneCell _ _) ?_))
              exact bodyPost_ret (v := .tuple #[.agg (rowW 16 (N / 2 ^ k)), .bool ((v : Int) != 0)]) (by exact results_row_tmp (p := 4) (u := 5) (ty := 66) rfl _ _ _ _ _ _ rfl HH.out Try.underlying66 rfl (by rw [rowW_size]; exact info_size)) rfl ⟨by rw [HF.out]; rfl, Below_setRow HB.out (by omega) _⟩
          · have HF : Hid (lost N k = left? N m) := by
              show _ = _
              unfold left? lost
              rw [Bool.eq_iff_iff]
              simp only [decide_eq_true_eq]
              rcases Nat.lt_or_ge m 16 with h | h
              · have hr0 : r = 0 := by omega
                have := HK.out
                rw [hr0, Nat.add_zero] at this
                rw [this]
              · have hm16 : m = 16 := by omega
                have h0 : wdn N m = 0 := wdn_eq_zero_of_lt N m 16 (LtW.of16 HN.out) (by omega)
                rw [HR.out, h0, Nat.zero_mul, Nat.zero_mod]
                simp
            generalize left? N m = t at HF ⊢
            by_cases hm16 : m < 16
            · have hr0 : ¬ 0 < r := fun h => hmr ⟨hm16, h⟩
              have j1 : (m : Int) < 16 := by omega
              clear hmr hm16
              go_wp2_with (first | (refine wpList_load_row rfl 66 _ rfl _ rfl 66 _ (0,0) _ h1 Try.underlying66 rfl (by rw [rowW_size]; exact info_size) ?_) | (refine wpList_store_row rfl 66 _ _ rfl _ _ rfl rfl 66 _ h0 (by rw [rowW_size]; exact info_size) (by rw [rowW_size, rowW_size]) (rowW_oneCell _ _) ?_))
              exact bodyPost_ret (v := .tuple #[.agg (rowW 16 (N / 2 ^ k)), .bool t]) (by exact results_row_tmp (p := 4) (u := 5) (ty := 66) rfl _ _ _ _ _ _ rfl HH.out Try.underlying66 rfl (by rw [rowW_size]; exact info_size)) rfl ⟨by rw [HF.out], Below_setRow HB.out (by omega) _⟩
            · have j1 : ¬ (m : Int) < 16 := by omega
              clear hmr hm16
              go_wp2_with (first | (refine wpList_load_row rfl 66 _ rfl _ rfl 66 _ (0,0) _ h1 Try.underlying66 rfl (by rw [rowW_size]; exact info_size) ?_) | (refine wpList_store_row rfl 66 _ _ rfl _ _ rfl rfl 66 _ h0 (by rw [rowW_size]; exact info_size) (by rw [rowW_size, rowW_size]) (rowW_oneCell _ _) ?_))
              exact bodyPost_ret (v := .tuple #[.agg (rowW 16 (N / 2 ^ k)), .bool t]) (by exact results_row_tmp (p := 4) (u := 5) (ty := 66) rfl _ _ _ _ _ _ rfl HH.out Try.underlying66 rfl (by rw [rowW_size]; exact info_size)) rfl ⟨by rw [HF.out], Below_setRow HB.out (by omega) _⟩
end Go.Proofs.Ytfohihjeemmedaa
