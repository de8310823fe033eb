/- The walk of package wide's Mul. -/
import Derived.Test.YtfohihjeemmedaaW4
import Derived.Laws.CopyOwn
import Derived.Deep.RegionLaw
namespace Go.Proofs.Ytfohihjeemmedaa
open Go.RowKit

/-! ### The plain law of the school method -/
/-- One step: a word of the sum, and what is carried. -/
theorem mul_step (x y w c : Nat) (hx : x < 18446744073709551616) (hy : y < 18446744073709551616) (hw : w < 18446744073709551616) (hc : c < 18446744073709551616) :
    ∃ H L l1 c1 h1 v c2 c' : Nat, H = x * y / 18446744073709551616 ∧ L = x * y % 18446744073709551616 ∧ L < 18446744073709551616 ∧ l1 = (L + w) % 18446744073709551616 ∧ c1 = (L + w) / 18446744073709551616 ∧ h1 = H + c1 ∧ h1 < 18446744073709551616 ∧ l1 < 18446744073709551616 ∧ v = (l1 + c) % 18446744073709551616 ∧ c2 = (l1 + c) / 18446744073709551616 ∧
      c' = h1 + c2 ∧ c' < 18446744073709551616 ∧ v + 18446744073709551616 * c' = x * y + w + c ∧ v < 18446744073709551616 := by
  refine ⟨_, _, _, _, _, _, _, _, rfl, rfl, Nat.mod_lt _ (by decide), rfl, rfl, rfl, ?_, Nat.mod_lt _ (by decide), rfl, rfl, rfl, ?_⟩
  all_goals
    have hxy : x * y ≤ 18446744073709551615 * 18446744073709551615 := Nat.mul_le_mul (by omega) (by omega)
    generalize x * y = p at *
    omega
theorem mul_inner (A A' x M c v c' i j : Nat) (h : A' + c * 2 ^ (64 * (i + j)) = A + x * (M % 2 ^ (64 * j)) * 2 ^ (64 * i))
    (hs : v + 18446744073709551616 * c' = x * wdn M j + wdn A' (i + j) + c) :
    setw A' (i + j) v + c' * 2 ^ (64 * (i + (j + 1))) = A + x * (M % 2 ^ (64 * (j + 1))) * 2 ^ (64 * i) := by
  have hle := wdn_mul_le A' (i + j)
  rw [cut_succ M j, ← Nat.add_assoc i j 1, pow_succ64 (i + j)]
  have e1 : x * (M % 2 ^ (64 * j) + 2 ^ (64 * j) * wdn M j) * 2 ^ (64 * i) = x * (M % 2 ^ (64 * j)) * 2 ^ (64 * i) + x * wdn M j * 2 ^ (64 * (i + j)) := by
    rw [Nat.mul_add, Nat.add_mul, show 64 * (i + j) = 64 * j + 64 * i by omega, Nat.pow_add]
    congr 1
    rw [← Nat.mul_assoc, ← Nat.mul_assoc, Nat.mul_assoc x, Nat.mul_comm (2 ^ (64 * j)), ← Nat.mul_assoc]
  rw [e1, ← Nat.add_assoc, ← h]
  unfold setw
  generalize 2 ^ (64 * (i + j)) = p at *
  have e2 : (v + 18446744073709551616 * c') * p = (x * wdn M j + wdn A' (i + j) + c) * p := by rw [hs]
  simp only [Nat.add_mul] at e2
  have e3 : c' * (p * 18446744073709551616) = 18446744073709551616 * c' * p := by
    rw [Nat.mul_comm p, ← Nat.mul_assoc, Nat.mul_comm c']
  rw [e3]
  omega
theorem mul_outer (A A' N M c i n : Nat) (hA : A = N % 2 ^ (64 * i) * M) (hM : M < 2 ^ (64 * n)) (hA' : A' < 2 ^ (64 * (i + n)))
    (h : A' + c * 2 ^ (64 * (i + n)) = A + wdn N i * (M % 2 ^ (64 * n)) * 2 ^ (64 * i)) : setw A' (i + n) c = N % 2 ^ (64 * (i + 1)) * M := by
  rw [Nat.mod_eq_of_lt hM] at h
  have h0 : wdn A' (i + n) + c = c := by rw [wdn_eq_zero_of_lt A' (i + n) (i + n) hA' (Nat.le_refl _)]; omega
  rw [setw_add _ _ _ _ h0, h, hA, cut_succ, Nat.add_mul]
  congr 1
  rw [Nat.mul_comm (2 ^ (64 * i)), Nat.mul_assoc, Nat.mul_assoc, Nat.mul_comm M]
theorem mul_bound (N M i n : Nat) (hM : M < 2 ^ (64 * n)) : N % 2 ^ (64 * i) * M < 2 ^ (64 * (i + n)) := by
  rw [show 64 * (i + n) = 64 * i + 64 * n by omega, Nat.pow_add]
  have h1 := Nat.mod_lt N (Nat.two_pow_pos (64 * i))
  rcases Nat.eq_zero_or_pos M with rfl | hM0
  · rw [Nat.mul_zero]; exact Nat.mul_pos (Nat.two_pow_pos _) (Nat.two_pow_pos _)
  · exact Nat.lt_of_lt_of_le (Nat.mul_lt_mul_of_pos_right h1 hM0) (Nat.mul_le_mul_left _ (Nat.le_of_lt hM))

theorem WI.cells_word (x : WI) (i : Nat) (h : i < 16) : x.cells[2 + i]? = some (.int .u64 ((wdn x.sz i : Nat) : Int)) := by
  rw [x.cells_eq]; exact cellsI_word _ _ _ i h
theorem rowW_get' (n N i : Nat) (h : i < n) : (rowW n N)[i]? = some (.int .u64 ((wdn N i : Nat) : Int)) := rowW_get n N i h
theorem mul64_v (X Y H L : Nat) (hX : X < 18446744073709551616) (hY : Y < 18446744073709551616) (hH : H = X * Y / 18446744073709551616) (hL : L = X * Y % 18446744073709551616) (w : World) :
    Calls Try.prog 84 #[.int .u64 X, .int .u64 Y] w fun e w' => e = .returned (.tuple #[.int .u64 (H : Int), .int .u64 (L : Int)]) ∧ w' = w :=
  (mul64_c X Y hX hY w).mono fun _ _ ⟨h1, h2⟩ => ⟨by rw [h1, hH, hL], h2.symm⟩
theorem add64_v (X Y l c : Nat) (hX : X < 18446744073709551616) (hY : Y < 18446744073709551616) (hl : l = (X + Y) % 18446744073709551616) (hc : c = (X + Y) / 18446744073709551616) (w : World) :
    (callFunc 85 #[.int .u64 (X : Int), .int .u64 (Y : Int), .int .u64 0]).run Try.prog w = .ok (.value (.tuple #[.int .u64 (l : Int), .int .u64 (c : Int)])) w := by
  rw [add64 X Y 0 (by omega) (by omega) (by omega) (by omega) (by omega) (by omega), hl, hc]
  congr 5 <;> omega
theorem wrap_u64_v (a b c : Nat) (h : c = a + b) (hc : c < 18446744073709551616) : IntKind.u64.wrap ((a : Int) + (b : Int)) = (c : Int) := by
  rw [IntKind.wrap_u64]; omega
theorem row_copy (A : Nat) : (_root_.Go.splice (rowW 16 0).toList 0 (rowW 16 A).toList).toArray = rowW 16 A := by
  unfold _root_.Go.splice
  rw [List.take_zero, List.nil_append, List.drop_eq_nil_of_le (by simp), List.append_nil, Array.toArray_toList]
theorem sgn_mul (n m : Bool) (N M : Nat) : sgn n N * sgn m M = sgn (n != m) (N * M) := by
  unfold sgn; cases n <;> cases m <;> simp [Int.neg_mul, Int.mul_neg]
theorem WI.mul_some {x y : WI} (hx : x.ov = false) (hy : y.ov = false) : x.mul y = WI.of (sgn (x.ng != y.ng) (x.sz * y.sz)) := by
  unfold WI.mul; rw [WI.some_of_ov hx, WI.some_of_ov hy]; simp only [sgn_mul]
theorem WI.mul_over (x y : WI) (h : x.ov = true ∨ y.ov = true) : x.mul y = WI.over := by
  unfold WI.mul; unfold WI.ov at h
  cases hx : x.v <;> cases hy : y.v <;> simp_all
/-- A word beyond the sixteenth. -/
theorem over_of_word (n : Bool) (A k : Nat) (h : wdn A (16 + k) ≠ 0) : WI.of (sgn n A) = WI.over := by
  have h1 := pow_le_of_wdn_ne A (16 + k) h
  refine WI.of_over ?_
  rw [sgn_abs]
  have h2 : ∀ m, m = 16 → W16 ≤ 2 ^ (64 * (m + k)) := fun m hm => by rw [W16_eq m hm]; exact pow2_le _ _ (by omega)
  have := h2 16 rfl
  have := lim_le
  omega
theorem small_of_words (A : Nat) (hA : LtW A 32) (h : ∀ m, m < 16 → wdn A (16 + m) = 0) : A < W16 := by
  have key : ∀ j n, j ≤ 16 → n = 32 → A < 2 ^ (64 * (n - j)) := by
    intro j
    induction j with
    | zero => intro n _ hn; rw [← hn] at hA; exact hA
    | succ j ih =>
      intro n hj hn
      have := ih n (by omega) hn
      rw [show n - j = (n - (j + 1)) + 1 by omega] at this
      refine lt_pow_of_wdn_zero A _ this ?_
      have := h (16 - (j + 1)) (by omega)
      rwa [show 16 + (16 - (j + 1)) = n - (j + 1) by omega] at this
  have h2 : ∀ m, m = 16 → A < 2 ^ (64 * m) → A < W16 := fun m hm h => by rw [W16_eq m hm]; exact h
  have h4 : ∀ n, n = 32 → A < W16 := fun n hn => h2 (n - 16) (by omega) (key 16 n (by omega) hn)
  exact h4 32 rfl

theorem info_32 : (Try.prog.info? 129).map (·.size) = some 32 := by kernel_rfl
theorem rowW_zero32 : rowW 32 0 = #[.int .u64 0, .int .u64 0, .int .u64 0, .int .u64 0, .int .u64 0, .int .u64 0, .int .u64 0, .int .u64 0, .int .u64 0, .int .u64 0, .int .u64 0, .int .u64 0, .int .u64 0, .int .u64 0, .int .u64 0, .int .u64 0,
    .int .u64 0, .int .u64 0, .int .u64 0, .int .u64 0, .int .u64 0, .int .u64 0, .int .u64 0, .int .u64 0, .int .u64 0, .int .u64 0, .int .u64 0, .int .u64 0, .int .u64 0, .int .u64 0, .int .u64 0, .int .u64 0] := by
  simp [rowW, Array.ofFn_succ, wd_zero]
@[go_sem ↓] theorem zero_32 (w : World) : (zeroValue 129).run Try.prog w = .ok (.agg (rowW 32 0)) w := by
  rw [rowW_zero32]; exact Try.zeroValue129 w

set_option maxRecDepth 100000 in
set_option maxHeartbeats 1000000 in
theorem mul_both (x y : WI) (hx : x.ov = false) (hy : y.ov = false) (w : World) :
    Calls Try.prog 67 #[.agg x.cells, .agg y.cells] w fun e w' => e = .returned (.agg (x.mul y).cells) ∧ Below w.heap.size w w' := by
  rw [WI.mul_some hx hy]
  obtain ⟨A, hA0⟩ : ∃ A, A = x.sz * y.sz := ⟨_, rfl⟩
  rw [← hA0]
  have HA0 := Lib.hid hA0
  have hA : LtW A 32 := by
    have h1 := x.sz_lt'
    have h2 := y.sz_lt'
    have h3 : ∀ m, m = 16 → LtW A (m + m) := fun m hm => by
      unfold LtW
      rw [show 64 * (m + m) = 64 * m + 64 * m by omega, Nat.pow_add, hA0]
      exact Nat.mul_lt_mul'' (W16_lt h1 hm) (W16_lt h2 hm)
    exact h3 16 rfl
  have HA := Lib.hid hA
  clear hA0 hA
  go_enter Try.func67, Try.ntmps67
  go_wp2_with fail
  refine (parts_c _ _ _ _ x.sz_lt' (.of_wi ((((Blk.new _ _ _).alloc _).alloc _).alloc _))).mono ?_; rintro e w' ⟨rfl, rfl⟩
  go_wp2_with fail
  refine (parts_c _ _ _ _ y.sz_lt' (.of_wi (((Blk.new' _ _ _ (by simp)).alloc _).alloc _))).mono ?_; rintro e w' ⟨rfl, rfl⟩
  have hm16 : np x.sz ≤ 16 := (np_le_iff _ _).2 (LtW.of16 x.sz_lt')
  have hn16 : np y.sz ≤ 16 := (np_le_iff _ _).2 (LtW.of16 y.sz_lt')
  have hylt : Hid (y.sz < 2 ^ (64 * np y.sz)) := np_lt _
  go_wp2_with fail
  go_loopw [29] (fun i wr => ∃ k : Nat, k ≤ np x.sz ∧ i = .int .i64 k ∧ Below w.heap.size w wr ∧ Blk wr w.heap.size x.cells 68 ∧ Blk wr (w.heap.size + 1) y.cells 68 ∧ Blk wr (w.heap.size + 1 + 1) (cellsI false false 0) 68 ∧ Blk wr (w.heap.size + 1 + 1 + 1) (rowW 32 (x.sz % 2 ^ (64 * k) * y.sz)) 129) (fun i _ => np x.sz - (intOf i).toNat)
  case atStart =>
    refine ⟨0, by omega, rfl, (by repeat (first | exact Below.refl _ _ | exact Below_of_hid (by assumption) | refine Below.drew ?_ | refine below_drewN ?_ _ | refine Below_putRow ?_ (by first | omega | (simp; done) | (simp; omega) | fail) _ _ | refine Below.alloc ?_ (by first | omega | (simp; done) | (simp; omega) | fail) _ | refine Below.setCell ?_ (by first | omega | (simp; done) | (simp; omega) | fail) _ | refine Below.trans ?_ (Below.mono (by assumption) (by first | omega | (simp; done) | (simp; omega) | fail)))), (((Blk.new _ _ _).alloc _).alloc _).alloc _, ((Blk.new' _ _ _ (by simp)).alloc _).alloc _, (Blk.new' _ _ _ (by simp)).alloc _, ?_⟩
    rw [show x.sz % 2 ^ (64 * 0) * y.sz = 0 by simp [Nat.mod_one]]
    exact Blk.new' _ _ _ (by simp)
  case round =>
    obtain ⟨i, hi, rfl, hb, q0, q1, q2, q3⟩ := hrel
    obtain ⟨wo, rfl⟩ : ∃ wo : World, wo = wr := ⟨_, rfl⟩
    by_cases hlt : i < np x.sz
    · have hlt' : (i : Int) < np x.sz := by omega
      have HB := Lib.hid hb
      have Q0 := Lib.hid q0
      have Q1 := Lib.hid q1
      have Q2 := Lib.hid q2
      have Q3 := Lib.hid q3
      clear hb q0 q1 q2 q3
      go_wp2_with fail
      go_loopw [9, 33] (fun c j wr => ∃ k A c', k ≤ np y.sz ∧ j = .int .i64 (k : Nat) ∧ c = .int .u64 (c' : Nat) ∧ c' < 18446744073709551616 ∧ Below w.heap.size w wr ∧ Blk wr w.heap.size x.cells 68 ∧ Blk wr (w.heap.size + 1) y.cells 68 ∧ Blk wr (w.heap.size + 1 + 1) (cellsI false false 0) 68 ∧ Blk wr (w.heap.size + 1 + 1 + 1) (rowW 32 A) 129 ∧ LtW A (i + np y.sz) ∧ Hid (A + c' * 2 ^ (64 * (i + k)) = x.sz % 2 ^ (64 * i) * y.sz + wdn x.sz i * (y.sz % 2 ^ (64 * k)) * 2 ^ (64 * i))) (fun _ j _ => np y.sz - (intOf j).toNat)
      case atStart =>
        refine ⟨0, _, 0, by omega, rfl, rfl, by omega, HB.out, Q0.out, Q1.out, Q2.out, Q3.out, mul_bound _ _ _ _ hylt.out, ?_⟩
        exact Lib.hid (by simp [Nat.mod_one])
      case round =>
        obtain ⟨j, A, c, hj, rfl, rfl, hc, hb, q0, q1, q2, q3, hA, hrec⟩ := hrel
        by_cases hlj : j < np y.sz
        · have hlj' : (j : Int) < np y.sz := by omega
          have hi16 : i < 16 := by omega
          have hj16 : j < 16 := by omega
          have e0 : wr.cell? ⟨w.heap.size, 2 + i, none⟩ = some (.int .u64 ((wdn x.sz i : Nat) : Int)) := q0.cell (x.cells_word i hi16)
          have e1 : wr.cell? ⟨w.heap.size + 1, 2 + j, none⟩ = some (.int .u64 ((wdn y.sz j : Nat) : Int)) := q1.cell (y.cells_word j hj16)
          have e3 : wr.cell? ⟨w.heap.size + 1 + 1 + 1, i + j, none⟩ = some (.int .u64 ((wdn A (i + j) : Nat) : Int)) := q3.cell (rowW_get' 32 A (i + j) (by omega))
          have f3 : wr.frozen? ⟨w.heap.size + 1 + 1 + 1, i + j, none⟩ = false := q3.frozen _
          have hX := wdn_lt x.sz i
          have hY := wdn_lt y.sz j
          have hW := wdn_lt A (i + j)
          obtain ⟨H, L, l1, c1, h1, v, c2, c', hH, hL, hLlt, hl1, hc1, hh1, hh1lt, hl1lt, hv, hc2, hc', hc'lt, hstep, hvlt⟩ := mul_step _ _ _ _ hX hY hW hc
          have hinv := Lib.hid (mul_inner _ A _ _ c v c' i j hrec.out hstep)
          have hlw := setw_lt A (i + j) v (i + np y.sz) hvlt (by omega) hA
          have hset := Lib.hid (rowW_set 32 A (i + j) v hvlt)
          have a1 := fun w => add64_v L (wdn A (i + j)) l1 c1 hLlt hW hl1 hc1 w
          have a2 := fun w => add64_v l1 c v c2 hl1lt hc hv hc2 w
          have w1 := wrap_u64_v H c1 h1 hh1 hh1lt
          have w2 := wrap_u64_v h1 c2 c' hc' hc'lt
          have HM := fun w => Lib.hid (mul64_v (wdn x.sz i) (wdn y.sz j) H L hX hY hH hL w)
          have HB := Lib.hid hb
          have Q0 := Lib.hid q0
          have Q1 := Lib.hid q1
          have Q2 := Lib.hid q2
          have Q3 := Lib.hid q3
          clear hb q0 q1 q2 q3 hrec hX hY hW hH hL hLlt hl1 hc1 hh1 hh1lt hl1lt hv hc2 hc' hstep hc
          have hij : (0 : Int) ≤ (i : Int) + j := by omega
          have hij' : (i : Int) + j < 32 := by omega
          go_wp2_with fail
          go_quiet ((go_at_call 84; exact Calls.quiet_of_same (HM _).out))
          go_wp2
          refine ⟨⟨j + 1, setw A (i + j) v, c', by omega, by go_num, rfl, hc'lt, ?_, ?_, ?_, ?_, ?_, hlw, hinv⟩, by simp [intOf]; omega⟩
          · exact (below_drewN HB.out _).setCell (by simp; omega) _
          · exact (Q0.out : Blk (wr.drewN _) _ _ _).setCell_other (by first | omega | (simp; done) | (simp; omega) | fail) _
          · exact (Q1.out : Blk (wr.drewN _) _ _ _).setCell_other (by first | omega | (simp; done) | (simp; omega) | fail) _
          · exact (Q2.out : Blk (wr.drewN _) _ _ _).setCell_other (by first | omega | (simp; done) | (simp; omega) | fail) _
          · rw [← hset.out]; exact (Q3.out : Blk (wr.drewN _) _ _ _).setCell_same _ _
        · have hjn : j = np y.sz := by omega
          subst hjn
          have ho := mul_outer _ A x.sz y.sz c i _ rfl hylt.out hA hrec.out
          have hset := rowW_set 32 A (i + np y.sz) c hc
          rw [ho] at hset
          have HSET := Lib.hid hset
          have e3 : wr.cell? ⟨w.heap.size + 1 + 1 + 1, i + np y.sz, none⟩ = some (.int .u64 ((wdn A (i + np y.sz) : Nat) : Int)) := q3.cell (rowW_get' 32 A (i + np y.sz) (by omega))
          have f3 : wr.frozen? ⟨w.heap.size + 1 + 1 + 1, i + np y.sz, none⟩ = false := q3.frozen _
          have HB := Lib.hid hb
          have Q0 := Lib.hid q0
          have Q1 := Lib.hid q1
          have Q2 := Lib.hid q2
          have Q3 := Lib.hid q3
          clear hb q0 q1 q2 q3 hrec ho hset hc
          have hij : (0 : Int) ≤ (i : Int) + np y.sz := by omega
          have hij' : (i : Int) + np y.sz < 32 := by omega
          go_wp2
          refine ⟨⟨i + 1, by omega, by go_num, ?_, ?_, ?_, ?_, ?_⟩, by simp [intOf]; omega⟩
          · exact HB.out.setCell (by simp; omega) _
          · exact Q0.out.setCell_other (by first | omega | (simp; done) | (simp; omega) | fail) _
          · exact Q1.out.setCell_other (by first | omega | (simp; done) | (simp; omega) | fail) _
          · exact Q2.out.setCell_other (by first | omega | (simp; done) | (simp; omega) | fail) _
          · rw [← HSET.out]; exact Q3.out.setCell_same _ _
    · have hin : i = np x.sz := by omega
      subst hin
      rw [Nat.mod_eq_of_lt (np_lt x.sz), ← HA0.out] at q3
      have HB := Lib.hid hb
      have Q0 := Lib.hid q0
      have Q1 := Lib.hid q1
      have Q2 := Lib.hid q2
      have Q3 := Lib.hid q3
      clear hb q0 q1 q2 q3
      go_wp2_with fail
      refine still_tail 2 (by kernel_rfl) (by kernel_rfl) ?_
      simp only [List.take_succ_cons, List.take_zero, List.drop_succ_cons, List.drop_zero]; (repeat still_step); (try refine wpStill_nil ?_)
      go_wp2_with (refine wpList_copy_splice rfl _ _ 134 134 rfl 36 Try.underlying134 info_word _ _ 16 16 16 32 rfl rfl wo.heap.size 0 (rowW 16 0).toList 66 (by rw [Array.toArray_toList]; exact (Blk.new wo _ _).drew) (rowW 16 A).toList (by simp) (fun _ => ⟨rfl, _, rfl, fun j v hv => ?_⟩) (by simp) ?_ wo.heap.size (wo.alloc (.cells (rowW 16 0) 66)).drew (Below.refl _ _) (Nat.le_refl _) ?_)
      · have hj : j < 16 := by
          have := (List.getElem?_eq_some_iff.1 hv).1
          simpa using this
        rw [Array.getElem?_toList, rowW_get 16 A j hj] at hv
        rw [Addr.add_mid, ← hv, Nat.zero_add]
        exact (Blk.cell ((Q3.out.alloc _).drew) (by rw [rowW_get 32 A j (by omega)]))
      · intro v hv
        exact (Array.all_eq_true_iff_forall_mem.1 (rowW_oneCell 16 A)) v (by simpa using hv)
      intro w2 hg2 hb2
      have q4 : Blk w2 wo.heap.size (rowW 16 A) 66 := by have := hg2.out; rw [row_copy] at this; exact this
      have q0 : Blk w2 w.heap.size x.cells 68 := ((Q0.out.alloc _).drew).below hb2 Q0.out.lt
      have q1 : Blk w2 (w.heap.size + 1) y.cells 68 := ((Q1.out.alloc _).drew).below hb2 Q1.out.lt
      have q2 : Blk w2 (w.heap.size + 1 + 1) (cellsI false false 0) 68 := ((Q2.out.alloc _).drew).below hb2 Q2.out.lt
      have q3 : Blk w2 (w.heap.size + 1 + 1 + 1) (rowW 32 A) 129 := ((Q3.out.alloc _).drew).below hb2 Q3.out.lt
      have HB2 : Hid (Below w.heap.size w w2) := ((HB.out.alloc HB.out.size _).drew).trans (hb2.mono HB.out.size)
      have ns : wo.heap.size < w2.heap.size := q4.lt
      have n2 : w.heap.size + 1 + 1 < w2.heap.size := q2.lt
      have Q0 := Lib.hid q0
      have Q1 := Lib.hid q1
      have Q2 := Lib.hid q2
      have Q3 := Lib.hid q3
      have Q4 := Lib.hid q4
      clear q0 q1 q2 q3 q4 hb2 hg2 HB
      go_wp2_with fail
      go_loop [86] (fun i => ∃ k : Nat, k ≤ 16 ∧ i = .int .i64 k ∧ Hid (∀ m, m < k → wdn A (16 + m) = 0)) (fun i => 16 - (intOf i).toNat)
      case atStart => exact ⟨0, by omega, rfl, Lib.hid (fun m hm => absurd hm (Nat.not_lt_zero m))⟩
      case round =>
        obtain ⟨k, hk, rfl, hz⟩ := hrel
        by_cases hlt : k < 16
        · have hlt' : (k : Int) < 16 := by omega
          have e3 : w2.cell? ⟨w.heap.size + 1 + 1 + 1, 16 + k, none⟩ = some (.int .u64 ((wdn A (16 + k) : Nat) : Int)) := Q3.out.cell (rowW_get' 32 A (16 + k) (by omega))
          by_cases h0 : wdn A (16 + k) = 0
          · have h0' : ((wdn A (16 + k) : Int) != 0) = false := by simp [h0]
            have hz' : Hid (∀ m, m < k + 1 → wdn A (16 + m) = 0) := fun m hm => by
              rcases Nat.lt_succ_iff_lt_or_eq.1 hm with h | h
              · exact hz.out m h
              · rw [h]; exact h0
            clear h0 hz
            go_wp2
            go_round
            case rel => exact ⟨k + 1, by omega, by go_num, hz'⟩
            case measure => simp [intOf] <;> omega
          · have h0' : ((wdn A (16 + k) : Int) != 0) = true := by simp; omega
            have E := Lib.hid (over_of_word (x.ng != y.ng) A k h0)
            have p2 := Q2.out.put? 0 (cellsI false true 0) (by simp) (by simp)
            clear h0 hz
            go_wp2_with fail
            refine (tooGreat_c _).mono ?_; rintro e w3 ⟨rfl, hb3⟩; have z_w3 := hb3.size; (try simp at z_w3); obtain ⟨y_w3_0_0, c_w3_0_0, f_w3_0_0, r_w3_0_0, t_w3_0_0, p_w3_0_0⟩ := bk hb3 (w.heap.size) (by first | omega | (simp; done) | (simp; omega) | fail); obtain ⟨y_w3_0_1, c_w3_0_1, f_w3_0_1, r_w3_0_1, t_w3_0_1, p_w3_0_1⟩ := bk hb3 (w.heap.size + 1) (by first | omega | (simp; done) | (simp; omega) | fail); obtain ⟨y_w3_0_2, c_w3_0_2, f_w3_0_2, r_w3_0_2, t_w3_0_2, p_w3_0_2⟩ := bk hb3 (w.heap.size + 1 + 1) (by first | omega | (simp; done) | (simp; omega) | fail)
            have p3 := (Q2.out.keep hb3).put? 0 (cellsI false true 0) (by simp) (by simp)
            have p4 := row_put p3 (n := 18) (by simp)
            go_wp2
            exact bodyPost_row 18 (cellsI false true 0) rfl rfl rfl Try.underlying68 rfl info_Int (by go_simp) ⟨by rw [E.out]; rfl, (by repeat (first | exact Below.refl _ _ | exact Below_of_hid (by assumption) | refine Below.drew ?_ | refine below_drewN ?_ _ | refine Below_putRow ?_ (by first | omega | (simp; done) | (simp; omega) | fail) _ _ | refine Below.alloc ?_ (by first | omega | (simp; done) | (simp; omega) | fail) _ | refine Below.setCell ?_ (by first | omega | (simp; done) | (simp; omega) | fail) _ | refine Below.trans ?_ (Below.mono (by assumption) (by first | omega | (simp; done) | (simp; omega) | fail))))⟩
        · have hk16 : k = 16 := by omega
          subst hk16
          have hs := Lib.hid (small_of_words A HA.out hz.out)
          have e0 : w2.cell? ⟨w.heap.size, 0, none⟩ = some (.bool x.ng) := Q0.out.cell x.cells_0
          have e1 : w2.cell? ⟨w.heap.size + 1, 0, none⟩ = some (.bool y.ng) := Q1.out.cell y.cells_0
          have e4 : w2.row? wo.heap.size 0 16 = some (rowW 16 A) := Q4.out.row?_all 16 (by simp)
          go_wp2_with fail
          refine (made_c _ _ hs.out _).mono ?_; rintro e w3 ⟨rfl, hb3⟩
          have p3 := (Q2.out.keep hb3).put? 0 (WI.of (sgn (!x.ng == y.ng) A)).cells (by simp) (by simp)
          have p4 := row_put p3 (n := 18) (by simp)
          go_wp2
          exact bodyPost_row 18 (WI.of (sgn (!x.ng == y.ng) A)).cells rfl rfl rfl Try.underlying68 rfl info_Int (by go_simp) ⟨by rw [show (!x.ng == y.ng) = (x.ng != y.ng) by cases x.ng <;> cases y.ng <;> rfl], (by repeat (first | exact Below.refl _ _ | exact Below_of_hid (by assumption) | refine Below.drew ?_ | refine below_drewN ?_ _ | refine Below_putRow ?_ (by first | omega | (simp; done) | (simp; omega) | fail) _ _ | refine Below.alloc ?_ (by first | omega | (simp; done) | (simp; omega) | fail) _ | refine Below.setCell ?_ (by first | omega | (simp; done) | (simp; omega) | fail) _ | refine Below.trans ?_ (Below.mono (by assumption) (by first | omega | (simp; done) | (simp; omega) | fail))))⟩

set_option maxRecDepth 100000 in
set_option maxHeartbeats 1000000 in
theorem mul_over (x y : WI) (h : x.ov = true ∨ y.ov = true) (w : World) :
    Calls Try.prog 67 #[.agg x.cells, .agg y.cells] w fun e w' => e = .returned (.agg (x.mul y).cells) ∧ Below w.heap.size w w' := by
  rw [WI.mul_over x y h]
  cases hx : x.ov with
  | true =>
    clear h
    go_enter Try.func67, Try.ntmps67
    go_wp2_with fail
    refine (tooGreat_c _).mono ?_; rintro e w1 ⟨rfl, hb1⟩; have z_w1 := hb1.size; (try simp at z_w1); obtain ⟨y_w1_0_0, c_w1_0_0, f_w1_0_0, r_w1_0_0, t_w1_0_0, p_w1_0_0⟩ := bk hb1 (w.heap.size) (by first | omega | (simp; done) | (simp; omega) | fail); obtain ⟨y_w1_0_1, c_w1_0_1, f_w1_0_1, r_w1_0_1, t_w1_0_1, p_w1_0_1⟩ := bk hb1 (w.heap.size + 1) (by first | omega | (simp; done) | (simp; omega) | fail); obtain ⟨y_w1_0_2, c_w1_0_2, f_w1_0_2, r_w1_0_2, t_w1_0_2, p_w1_0_2⟩ := bk hb1 (w.heap.size + 1 + 1) (by first | omega | (simp; done) | (simp; omega) | fail)
    go_wp2
    exact bodyPost_row 18 (cellsI false true 0) rfl rfl rfl Try.underlying68 rfl info_Int (by go_simp) ⟨rfl, (by repeat (first | exact Below.refl _ _ | exact Below_of_hid (by assumption) | refine Below.drew ?_ | refine below_drewN ?_ _ | refine Below_putRow ?_ (by first | omega | (simp; done) | (simp; omega) | fail) _ _ | refine Below.alloc ?_ (by first | omega | (simp; done) | (simp; omega) | fail) _ | refine Below.setCell ?_ (by first | omega | (simp; done) | (simp; omega) | fail) _ | refine Below.trans ?_ (Below.mono (by assumption) (by first | omega | (simp; done) | (simp; omega) | fail))))⟩
  | false =>
    have hy : y.ov = true := by rcases h with h | h <;> simp_all
    clear h
    go_enter Try.func67, Try.ntmps67
    go_wp2_with fail
    refine (tooGreat_c _).mono ?_; rintro e w1 ⟨rfl, hb1⟩; have z_w1 := hb1.size; (try simp at z_w1); obtain ⟨y_w1_0_0, c_w1_0_0, f_w1_0_0, r_w1_0_0, t_w1_0_0, p_w1_0_0⟩ := bk hb1 (w.heap.size) (by first | omega | (simp; done) | (simp; omega) | fail); obtain ⟨y_w1_0_1, c_w1_0_1, f_w1_0_1, r_w1_0_1, t_w1_0_1, p_w1_0_1⟩ := bk hb1 (w.heap.size + 1) (by first | omega | (simp; done) | (simp; omega) | fail); obtain ⟨y_w1_0_2, c_w1_0_2, f_w1_0_2, r_w1_0_2, t_w1_0_2, p_w1_0_2⟩ := bk hb1 (w.heap.size + 1 + 1) (by first | omega | (simp; done) | (simp; omega) | fail)
    go_wp2
    exact bodyPost_row 18 (cellsI false true 0) rfl rfl rfl Try.underlying68 rfl info_Int (by go_simp) ⟨rfl, (by repeat (first | exact Below.refl _ _ | exact Below_of_hid (by assumption) | refine Below.drew ?_ | refine below_drewN ?_ _ | refine Below_putRow ?_ (by first | omega | (simp; done) | (simp; omega) | fail) _ _ | refine Below.alloc ?_ (by first | omega | (simp; done) | (simp; omega) | fail) _ | refine Below.setCell ?_ (by first | omega | (simp; done) | (simp; omega) | fail) _ | refine Below.trans ?_ (Below.mono (by assumption) (by first | omega | (simp; done) | (simp; omega) | fail))))⟩

/-- Mul. -/
theorem mul_I (x y : WI) (w : World) :
    Calls Try.prog 67 #[.agg x.cells, .agg y.cells] w fun e w' => e = .returned (.agg (x.mul y).cells) ∧ Below w.heap.size w w' := by
  cases hx : x.ov with
  | true => exact mul_over x y (.inl hx) w
  | false =>
    cases hy : y.ov with
    | true => exact mul_over x y (.inr hy) w
    | false => exact mul_both x y hx hy w
end Go.Proofs.Ytfohihjeemmedaa
