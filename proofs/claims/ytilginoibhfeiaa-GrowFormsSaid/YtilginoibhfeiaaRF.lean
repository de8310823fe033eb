/- The walks of the document's Bits, Sub2, Cmp. The walk of the document's Int64. The law's same; the walk of WideSums. -/
import Derived.Test.YtilginoibhfeiaaRC
import Derived.Test.YtilginoibhfeiaaBY
import Derived.Test.YtilginoibhfeiaaLA
import Derived.Test.YtilginoibhfeiaaRE
namespace Go.Proofs.Ytilginoibhfeiaa
set_option linter.unusedSimpArgs false
open Go.RowKit

theorem ghost_val {P : Program} {f : Ghost} {w : World} {r : Result Next} {v : Value} (hr : r = .ok (.value v) w) (h : f.holds w v) (hf : ∀ v, f.own v = none := by intro _; rfl) : ghostUpon P f w r := by
  subst hr
  exact ⟨h, Below.refl _ _, fun b hb => by rw [hf v] at hb; cases hb⟩
/-- A whole number of the document, of whatever size. -/
def ZIs (w : World) (v : Value) (z : Int) : Prop := ∃ s, v = .agg #[.bool (decide (z < 0)), .bool false, s] ∧ Rd w s (dg z.natAbs)
theorem ZIs.below {w w' : World} {v : Value} {z : Int} (h : ZIs w v z) (hb : Below w.heap.size w w') : ZIs w' v z := by
  obtain ⟨s, hs, hr⟩ := h; exact ⟨s, hs, hr.below hb⟩
def gZ (z : Int) : Ghost := { holds := fun w v => ZIs w v z, stable := fun h hb => h.below hb }
set_option maxRecDepth 100000 in
set_option maxHeartbeats 1000000 in
/-- Sign, of whatever size. -/
theorem sign_z (v : Value) (z : Int) (w : World) (hz : ZIs w v z) :
    Calls Try.prog 88 #[v] w fun e w' => e = .returned (.int .i64 z.sign) ∧ Below w.heap.size w w' := by
  obtain ⟨s, rfl, hr⟩ := hz
  obtain ⟨A, cap, rfl⟩ := hr.form
  have hl : (dg z.natAbs).length = 0 ↔ z = 0 := by rw [List.length_eq_zero_iff, dg_nil]; omega
  clear hr
  rcases Int.lt_trichotomy z 0 with h | h | h
  · have e : Hid (z.sign = -1) := Int.sign_eq_neg_one_of_neg h
    have hz : ¬ (dg z.natAbs).length = 0 := fun h' => by have := hl.1 h'; omega
    have hd : decide (z < 0) = true := by simp [h]
    rw [hd]
    clear hl h hd
    go_enter Try.func88, Try.ntmps88
    go_wp2_with fail
    go_ret
    exact ⟨ret_int e.out.symm, (by repeat (first | exact Below.refl _ _ | exact Below_of_hid (by assumption) | refine Below.drew ?_ | refine below_drewN ?_ _ | refine Below_putRow ?_ (by first | omega | (simp; done) | (simp; omega) | fail) _ _ | refine Below.alloc ?_ (by first | omega | (simp; done) | (simp; omega) | fail) _ | refine Below.setCell ?_ (by first | omega | (simp; done) | (simp; omega) | fail) _ | refine Below.trans ?_ (Below.mono (by assumption) (by first | omega | (simp; done) | (simp; omega) | fail))))⟩
  · subst h
    have hz : (dg (0 : Int).natAbs).length = 0 := hl.2 rfl
    rw [hz]
    clear hl hz
    go_enter Try.func88, Try.ntmps88
    go_wp2_with fail
    go_ret
    exact ⟨rfl, (by repeat (first | exact Below.refl _ _ | exact Below_of_hid (by assumption) | refine Below.drew ?_ | refine below_drewN ?_ _ | refine Below_putRow ?_ (by first | omega | (simp; done) | (simp; omega) | fail) _ _ | refine Below.alloc ?_ (by first | omega | (simp; done) | (simp; omega) | fail) _ | refine Below.setCell ?_ (by first | omega | (simp; done) | (simp; omega) | fail) _ | refine Below.trans ?_ (Below.mono (by assumption) (by first | omega | (simp; done) | (simp; omega) | fail))))⟩
  · have e : Hid (z.sign = 1) := Int.sign_eq_one_of_pos h
    have hz : ¬ (dg z.natAbs).length = 0 := fun h' => by have := hl.1 h'; omega
    have hd : decide (z < 0) = false := by simp; omega
    rw [hd]
    clear hl h hd
    go_enter Try.func88, Try.ntmps88
    go_wp2_with fail
    go_ret
    exact ⟨ret_int e.out.symm, (by repeat (first | exact Below.refl _ _ | exact Below_of_hid (by assumption) | refine Below.drew ?_ | refine below_drewN ?_ _ | refine Below_putRow ?_ (by first | omega | (simp; done) | (simp; omega) | fail) _ _ | refine Below.alloc ?_ (by first | omega | (simp; done) | (simp; omega) | fail) _ | refine Below.setCell ?_ (by first | omega | (simp; done) | (simp; omega) | fail) _ | refine Below.trans ?_ (Below.mono (by assumption) (by first | omega | (simp; done) | (simp; omega) | fail))))⟩
theorem sgn_neg (n : Bool) (N : Nat) : decide (sgn n N < 0) = (n && decide (N ≠ 0)) := by
  unfold sgn
  cases n
  · simp
  · rw [Bool.true_and, decide_eq_decide]; simp; omega
end Go.Proofs.Ytilginoibhfeiaa
namespace Go.Proofs.Ytilginoibhfeiaa
set_option linter.unusedSimpArgs false
open Go.RowKit

theorem or64_nat (a b : Nat) (ha : a < 18446744073709551616) (hb : b < 18446744073709551616) : bits .or .u64 (a : Int) (b : Int) = ((a ||| b : Nat) : Int) := by
  have hx : a ||| b < 2 ^ 64 := Nat.or_lt_two_pow (by omega) (by omega)
  have h1 : (BitVec.ofInt 64 (a : Int)).toNat = a := by
    rw [BitVec.ofInt_natCast, BitVec.toNat_ofNat]; exact Nat.mod_eq_of_lt (by omega)
  have h2 : (BitVec.ofInt 64 (b : Int)).toNat = b := by
    rw [BitVec.ofInt_natCast, BitVec.toNat_ofNat]; exact Nat.mod_eq_of_lt (by omega)
  show IntKind.u64.wrap ((BitVec.ofInt 64 (a : Int) ||| BitVec.ofInt 64 (b : Int)).toNat : Int) = _
  rw [BitVec.toNat_or, h1, h2, IntKind.wrap_u64]
  omega
theorem or64_zero (x : Nat) (hx : x < 4294967296) : bits .or .u64 0 (x : Int) = (x : Int) := by
  have := or64_nat 0 x (by decide) (by omega)
  rw [Nat.zero_or] at this
  exact this
set_option maxRecDepth 100000 in
set_option maxHeartbeats 1000000 in
theorem int64_main (x : WI) (A : Option Addr) (cap : Nat) (w : World) (ho : x.ov = false) (hs : Rd w (.slice A (dg x.sz).length cap) (dg x.sz)) (hl : (dg x.sz).length ≤ 2) :
    Calls Try.prog 55 #[.agg #[.bool x.ng, .bool false, .slice A (dg x.sz).length cap]] w fun e w' => e = .returned (.tuple #[.int .i64 x.i64.1, .bool x.i64.2]) ∧ Below w.heap.size w w' := by
  have HI := Lib.hid (x.i64_some ho)
  have RX := Lib.hid (fun i hi => hs.at' (n := (dg x.sz).length) i hi)
  have HV : Hid (nvf (fun i => (dg x.sz).getD i 0) (dg x.sz).length = x.sz) := nvf_dg _ _ (Nat.le_refl _)
  have hlt := dg_lt x.sz
  have DX : Hid (∀ i, (dg x.sz).getD i 0 < 4294967296) := getD_lt hs.1
  obtain ⟨f, hf⟩ : ∃ f : Nat → Nat, (fun i => (dg x.sz).getD i 0) = f := ⟨_, rfl⟩
  have hf' : Hid (∀ i, (dg x.sz).getD i 0 = f i) := fun i => by rw [← hf]
  rw [hf] at HV
  obtain ⟨n, hn⟩ : ∃ n, (dg x.sz).length = n := ⟨_, rfl⟩
  obtain ⟨N, hN⟩ : ∃ N, x.sz = N := ⟨_, rfl⟩
  rw [hn] at RX hl HV hlt ⊢
  rw [hN] at HI hlt HV hf' DX RX
  obtain ⟨s, hsg⟩ : ∃ s, x.ng = s := ⟨_, rfl⟩
  rw [hsg] at HI ⊢
  have hN64 : N < 18446744073709551616 := Nat.lt_of_lt_of_le hlt (by
    rw [show (18446744073709551616 : Nat) = 4294967296 ^ 2 from rfl]; exact Nat.pow_le_pow_right (by decide) hl)
  have B0 := Lib.hid (Blk.new w #[.bool s, .bool false, .slice A n cap] 32)
  have HB := Lib.hid ((Below.refl w.heap.size w).alloc (Nat.le_refl _) (.cells #[.bool s, .bool false, .slice A n cap] 32))
  clear hs hn hN hsg hf hlt
  go_enter Try.func55, Try.ntmps55
  go_wp2_with fail
  go_loopw [4, 18] (fun t4 t18 wr => ∃ i : Nat, i ≤ n ∧ t18 = .int .i64 i ∧ t4 = .int .u64 (nvf f i : Nat) ∧ Hid (Below w.heap.size w wr) ∧ Hid (Blk wr w.heap.size #[.bool s, .bool false, .slice A n cap] 32)) (fun _ t18 _ => n - (intOf t18).toNat)
  case atStart => exact ⟨0, Nat.zero_le _, rfl, rfl, HB, B0⟩
  case round =>
    obtain ⟨i, hi, rfl, rfl, hb, q0⟩ := hrel
    by_cases hlt : i < n
    · obtain ⟨b, o, rfl, hbb, cA, uA⟩ := RX.out i hlt
      have cA' := (hb.out.cell (p := ⟨b, o + i, none⟩) hbb).trans cA
      rw [hf'.out] at cA' uA
      rcases i with _ | _ | i
      · have h0 := or64_zero (f 0) uA
        have HN : Hid (nvf f 1 = f 0) := by show 0 + 4294967296 ^ 0 * f 0 = f 0; omega
        have k1 : (0 : Int) < (n : Int) := by omega
        have hn1 : Hid (1 ≤ n) := by show 1 ≤ n; omega
        have e0 : nvf f 0 = 0 := rfl
        rw [e0]
        obtain ⟨v, hv⟩ : ∃ v, f 0 = v := ⟨_, rfl⟩
        rw [hv] at h0 HN cA' uA
        rw [Nat.add_zero] at cA'
        clear cA hv e0 hi hlt
        go_wp2_with fail
        exact ⟨⟨1, hn1.out, by first | rfl | go_num, by rw [HN.out], hb, q0⟩, by simp [intOf]; omega⟩
      · rw [Nat.zero_add] at *
        have hu : nvf f 1 < 4294967296 := by
          have := nvf_lt f (fun k => by rw [← hf'.out]; exact DX.out k) 1
          simpa using this
        have h0 := or_high_u64 (nvf f 1) (f 1) hu uA
        rw [show IntKind.u64.wrap (((f 1 : Nat) : Int) * 4294967296) = ((f 1 : Nat) : Int) * 4294967296 by rw [IntKind.wrap_u64]; omega] at h0
        have HN : Hid (nvf f 2 = nvf f 1 + 4294967296 * f 1) := by show nvf f 1 + 4294967296 ^ 1 * f 1 = _; omega
        have k1 : (1 : Int) < (n : Int) := by omega
        have hn1 : Hid (2 ≤ n) := by show 2 ≤ n; omega
        obtain ⟨v, hv⟩ : ∃ v, f 1 = v := ⟨_, rfl⟩
        obtain ⟨u, hu1⟩ : ∃ u, nvf f 1 = u := ⟨_, rfl⟩
        rw [hv] at h0 HN cA' uA
        rw [hu1] at h0 HN hu ⊢
        clear cA hv hu1 hi hlt
        go_wp2_with fail
        exact ⟨⟨2, hn1.out, by first | rfl | go_num, by rw [HN.out, Int.natCast_add, Int.natCast_mul]; rfl, hb, q0⟩, by simp [intOf]; omega⟩
      · omega
    · obtain rfl : i = n := by omega
      have k1 : ¬ (i : Int) < (i : Int) := by omega
      have e0 : wr.cell? ⟨w.heap.size, 0, none⟩ = some (.bool s) := q0.out.cell (i := 0) rfl
      rw [HV.out]
      cases s with
      | true =>
        by_cases hbig : N ≤ 9223372036854775808
        · have HR : Hid (x.i64 = (-(N : Int), true)) := by
            show _ = _
            rw [HI.out, if_pos (by first | omega | (simp; omega))]; rfl
          have c1 : ¬ (9223372036854775808 : Int) < (N : Int) := by omega
          have c2 : IntKind.i64.wrap (IntKind.u64.wrap (-(N : Int))) = -(N : Int) := by rw [IntKind.wrap_u64, IntKind.wrap_i64]; omega
          have c3 : wrap64 (IntKind.u64.wrap (-(N : Int))) = -(N : Int) := by rw [IntKind.wrap_u64]; unfold wrap64; omega
          clear hbig
          go_wp2_with fail
          go_ret2
          exact ⟨by rw [HR.out]; rfl, hb.out⟩
        · have HR : Hid (x.i64 = (0, false)) := by
            show _ = _
            rw [HI.out, if_neg (by first | omega | (simp; omega))]
          have c1 : (9223372036854775808 : Int) < (N : Int) := by omega
          clear hbig
          go_wp2_with fail
          go_ret2
          exact ⟨by rw [HR.out]; rfl, hb.out⟩
      | false =>
        by_cases hbig : N < 9223372036854775808
        · have HR : Hid (x.i64 = ((N : Int), true)) := by
            show _ = _
            rw [HI.out, if_pos (by first | omega | (simp; omega))]; rfl
          have c1 : ¬ (9223372036854775808 : Int) ≤ (N : Int) := by omega
          have c3 : wrap64 (N : Int) = (N : Int) := by unfold wrap64; omega
          clear hbig
          go_wp2_with fail
          go_ret2
          exact ⟨by rw [HR.out]; rfl, hb.out⟩
        · have HR : Hid (x.i64 = (0, false)) := by
            show _ = _
            rw [HI.out, if_neg (by simp; omega)]
          have c1 : (9223372036854775808 : Int) ≤ (N : Int) := by omega
          clear hbig
          go_wp2_with fail
          go_ret2
          exact ⟨by rw [HR.out]; rfl, hb.out⟩
set_option maxRecDepth 100000 in
set_option maxHeartbeats 1000000 in
/-- Int64. -/
theorem int64_r (v : Value) (x : WI) (w : World) (hv : BigIs w v x) :
    Calls Try.prog 55 #[v] w fun e w' => e = .returned (.tuple #[.int .i64 x.i64.1, .bool x.i64.2]) ∧ Below w.heap.size w w' := by
  obtain ⟨A, cap, rfl, hs⟩ := hv.opened
  cases ho : x.ov with
  | true =>
    have HR := Lib.hid (WI.i64_over x ho)
    clear hs hv
    go_enter Try.func55, Try.ntmps55
    go_wp2_with fail
    go_ret2
    exact ⟨by rw [HR.out]; rfl, (by repeat (first | exact Below.refl _ _ | exact Below_of_hid (by assumption) | refine Below.drew ?_ | refine below_drewN ?_ _ | refine Below_putRow ?_ (by first | omega | (simp; done) | (simp; omega) | fail) _ _ | refine Below.alloc ?_ (by first | omega | (simp; done) | (simp; omega) | fail) _ | refine Below.setCell ?_ (by first | omega | (simp; done) | (simp; omega) | fail) _ | refine Below.trans ?_ (Below.mono (by assumption) (by first | omega | (simp; done) | (simp; omega) | fail))))⟩
  | false =>
    by_cases hl : (dg x.sz).length ≤ 2
    · exact int64_main x A cap w ho hs hl
    · have HR : Hid (x.i64 = (0, false)) := by
        show _ = _
        rw [x.i64_some ho, if_neg]
        have : ¬ x.sz < 4294967296 ^ 2 := fun h => hl (dg_len_le _ _ h)
        omega
      have hl2 : (2 : Int) < ((dg x.sz).length : Int) := by omega
      clear hs hv hl
      go_enter Try.func55, Try.ntmps55
      go_wp2_with fail
      go_ret2
      exact ⟨by rw [HR.out]; rfl, (by repeat (first | exact Below.refl _ _ | exact Below_of_hid (by assumption) | refine Below.drew ?_ | refine below_drewN ?_ _ | refine Below_putRow ?_ (by first | omega | (simp; done) | (simp; omega) | fail) _ _ | refine Below.alloc ?_ (by first | omega | (simp; done) | (simp; omega) | fail) _ | refine Below.setCell ?_ (by first | omega | (simp; done) | (simp; omega) | fail) _ | refine Below.trans ?_ (Below.mono (by assumption) (by first | omega | (simp; done) | (simp; omega) | fail))))⟩
end Go.Proofs.Ytilginoibhfeiaa
namespace Go.Proofs.Ytilginoibhfeiaa
set_option linter.unusedSimpArgs false
open Go.RowKit

theorem str_s (l : List UInt8) : ∃ S, str l = .string ⟨S⟩ := ⟨_, rfl⟩
theorem text_ws {x : WI} {v : Value} (h : Hid (str (txt x.v) = v)) {w : World} : Calls Try.prog 51 #[.agg x.cells] w fun e w' => e = .returned v ∧ Below w.heap.size w w' := by
  have := text_I x w
  rwa [h.out] at this
theorem text_rs {x : WI} {v u : Value} {w : World} (hb : BigIs w u x) (h : Hid (str (txt x.v) = v)) : Calls Try.prog 52 #[u] w fun e w' => e = .returned v ∧ Below w.heap.size w w' := by
  have := text_r u x w hb
  rwa [h.out] at this
set_option maxRecDepth 100000 in
set_option maxHeartbeats 1000000 in
/-- The law's same: the program's number and the document's, the same. -/
theorem same_r (x : WI) (v : Value) (w : World) (hv : BigIs w v x) :
    Calls Try.prog 11 #[.agg x.cells, v] w fun e w' => e = .returned (.bool true) ∧ Below w.heap.size w w' := by
  obtain ⟨A, cap, rfl, hs⟩ := hv.opened
  have HS := Lib.hid hs
  obtain ⟨S, hS⟩ := str_s (txt x.v)
  have HT := Lib.hid hS
  clear hs hv hS
  go_enter Try.func11, Try.ntmps11
  go_wp2_with fail
  obtain ⟨u, hu⟩ : ∃ u, u = (w.alloc (Obj.cells x.cells 29)).alloc (Obj.cells #[.bool x.ng, .bool x.ov, .slice A (dg x.sz).length cap] 32) := ⟨_, rfl⟩
  rw [← hu]
  have B0 : Hid (Blk u w.heap.size x.cells 29) := by rw [hu]; exact (Blk.new _ _ _).alloc _
  have B1 : Hid (Blk u (w.heap.size + 1) #[.bool x.ng, .bool x.ov, .slice A (dg x.sz).length cap] 32) := by rw [hu]; exact Blk.new' _ _ _ (by simp)
  have HB0 : Hid (Below w.heap.size w u) := by rw [hu]; exact ((Below.refl _ _).alloc (Nat.le_refl _) _).alloc (by simp) _
  have HB : Hid (Below w.heap.size w u.drew) := HB0.out.drew
  clear hu
  have ra := @inh_row _ _ _ _ _ (B0.out.row?_all 18 (by simp))
  have q0 := @inh_cell _ _ _ (show u.cell? _ = some (.bool x.ng) from B1.out.cell (i := 0) rfl)
  have q1 := @inh_cell _ _ _ (show u.cell? _ = some (.bool x.ov) from B1.out.cell (i := 1) rfl)
  have q2 := @inh_cell _ _ _ (show u.cell? _ = some (.slice A (dg x.sz).length cap) from B1.out.cell (i := 2) rfl)
  clear B0 B1
  refine wp_region_ghost' 13 (fun _ => none) (fun _ => []) (by kernel_rfl) (by kernel_rfl) ?_; refine ex_listH ?_; apply Exists.intro; refine ex_listH ?_; apply Exists.intro; refine ex_listH ?_; apply Exists.intro; refine ex_listH ?_; apply Exists.intro; refine ex_listH ?_; apply Exists.intro; refine ex_listH ?_; apply Exists.intro; refine ex_listH ?_; apply Exists.intro; refine ex_listH ?_; apply Exists.intro; refine ex_listH ?_; apply Exists.intro; refine ex_listH ?_; apply Exists.intro; refine ex_listH ?_; apply Exists.intro; refine ex_listH ?_; apply Exists.intro; refine ex_listH ?_; apply Exists.intro; refine ⟨[], fun gg NN hN => ?_⟩; simp only [List.append_eq, List.cons_append, List.nil_append, List.take_succ_cons, List.take_zero, List.drop_succ_cons, List.drop_zero]; (refine lexH_quiet rfl ?_; go_big_quiet_step (first | exact rfl | (first | (go_at_call 51; with_reducible exact calls_inh (text_ws HT)) | (rename_i px; go_at_call 52; exact calls_inh (text_rs (BigIs.mk (HS.out.below (inh_low HB.out px))) HT)) | (go_at_call 53; with_reducible exact calls_inh (over_I _ _)))); refine wpQuiet_nil ⟨?hd, ?_⟩; (case hd => (simp only [dstVh, Array.getD_eq_getD_getElem?, List.getElem?_toArray, List.getElem?_cons_zero, List.getElem?_cons_succ, Option.getD_some, List.getD_cons_zero, List.getD_cons_succ]; exact rfl))); (refine lexH_quiet rfl ?_; go_big_quiet_step (first | exact rfl | (first | (go_at_call 51; with_reducible exact calls_inh (text_ws HT)) | (rename_i px; go_at_call 52; exact calls_inh (text_rs (BigIs.mk (HS.out.below (inh_low HB.out px))) HT)) | (go_at_call 53; with_reducible exact calls_inh (over_I _ _)))); refine wpQuiet_nil ⟨?hd, ?_⟩; (case hd => (simp only [dstVh, Array.getD_eq_getD_getElem?, List.getElem?_toArray, List.getElem?_cons_zero, List.getElem?_cons_succ, Option.getD_some, List.getD_cons_zero, List.getD_cons_succ]; exact rfl))); (refine lexH_quiet rfl ?_; go_big_quiet_step (first | exact rfl | (first | (go_at_call 51; with_reducible exact calls_inh (text_ws HT)) | (rename_i px; go_at_call 52; exact calls_inh (text_rs (BigIs.mk (HS.out.below (inh_low HB.out px))) HT)) | (go_at_call 53; with_reducible exact calls_inh (over_I _ _)))); refine wpQuiet_nil ⟨?hd, ?_⟩; (case hd => (simp only [dstVh, Array.getD_eq_getD_getElem?, List.getElem?_toArray, List.getElem?_cons_zero, List.getElem?_cons_succ, Option.getD_some, List.getD_cons_zero, List.getD_cons_succ]; exact rfl))); (refine lexH_quiet rfl ?_; go_big_quiet_step (first | exact rfl | (first | (go_at_call 51; with_reducible exact calls_inh (text_ws HT)) | (rename_i px; go_at_call 52; exact calls_inh (text_rs (BigIs.mk (HS.out.below (inh_low HB.out px))) HT)) | (go_at_call 53; with_reducible exact calls_inh (over_I _ _)))); refine wpQuiet_nil ⟨?hd, ?_⟩; (case hd => (simp only [dstVh, Array.getD_eq_getD_getElem?, List.getElem?_toArray, List.getElem?_cons_zero, List.getElem?_cons_succ, Option.getD_some, List.getD_cons_zero, List.getD_cons_succ]; exact rfl))); (refine lexH_quiet rfl ?_; go_big_quiet_step (first | exact rfl | (first | (go_at_call 51; with_reducible exact calls_inh (text_ws HT)) | (rename_i px; go_at_call 52; exact calls_inh (text_rs (BigIs.mk (HS.out.below (inh_low HB.out px))) HT)) | (go_at_call 53; with_reducible exact calls_inh (over_I _ _)))); refine wpQuiet_nil ⟨?hd, ?_⟩; (case hd => (simp only [dstVh, Array.getD_eq_getD_getElem?, List.getElem?_toArray, List.getElem?_cons_zero, List.getElem?_cons_succ, Option.getD_some, List.getD_cons_zero, List.getD_cons_succ]; exact rfl))); (refine lexH_quiet rfl ?_; go_big_quiet_step (first | exact rfl | (first | (go_at_call 51; with_reducible exact calls_inh (text_ws HT)) | (rename_i px; go_at_call 52; exact calls_inh (text_rs (BigIs.mk (HS.out.below (inh_low HB.out px))) HT)) | (go_at_call 53; with_reducible exact calls_inh (over_I _ _)))); refine wpQuiet_nil ⟨?hd, ?_⟩; (case hd => (simp only [dstVh, Array.getD_eq_getD_getElem?, List.getElem?_toArray, List.getElem?_cons_zero, List.getElem?_cons_succ, Option.getD_some, List.getD_cons_zero, List.getD_cons_succ]; exact rfl))); (refine lexH_quiet rfl ?_; go_big_quiet_step (first | exact rfl | (first | (go_at_call 51; with_reducible exact calls_inh (text_ws HT)) | (rename_i px; go_at_call 52; exact calls_inh (text_rs (BigIs.mk (HS.out.below (inh_low HB.out px))) HT)) | (go_at_call 53; with_reducible exact calls_inh (over_I _ _)))); refine wpQuiet_nil ⟨?hd, ?_⟩; (case hd => (simp only [dstVh, Array.getD_eq_getD_getElem?, List.getElem?_toArray, List.getElem?_cons_zero, List.getElem?_cons_succ, Option.getD_some, List.getD_cons_zero, List.getD_cons_succ]; exact rfl))); (refine lexH_quiet rfl ?_; go_big_quiet_step (first | exact rfl | (first | (go_at_call 51; with_reducible exact calls_inh (text_ws HT)) | (rename_i px; go_at_call 52; exact calls_inh (text_rs (BigIs.mk (HS.out.below (inh_low HB.out px))) HT)) | (go_at_call 53; with_reducible exact calls_inh (over_I _ _)))); refine wpQuiet_nil ⟨?hd, ?_⟩; (case hd => (simp only [dstVh, Array.getD_eq_getD_getElem?, List.getElem?_toArray, List.getElem?_cons_zero, List.getElem?_cons_succ, Option.getD_some, List.getD_cons_zero, List.getD_cons_succ]; exact rfl))); (refine lexH_quiet rfl ?_; go_big_quiet_step (first | exact rfl | (first | (go_at_call 51; with_reducible exact calls_inh (text_ws HT)) | (rename_i px; go_at_call 52; exact calls_inh (text_rs (BigIs.mk (HS.out.below (inh_low HB.out px))) HT)) | (go_at_call 53; with_reducible exact calls_inh (over_I _ _)))); refine wpQuiet_nil ⟨?hd, ?_⟩; (case hd => (simp only [dstVh, Array.getD_eq_getD_getElem?, List.getElem?_toArray, List.getElem?_cons_zero, List.getElem?_cons_succ, Option.getD_some, List.getD_cons_zero, List.getD_cons_succ]; exact rfl))); (refine lexH_quiet rfl ?_; go_big_quiet_step (first | exact rfl | (first | (go_at_call 51; with_reducible exact calls_inh (text_ws HT)) | (rename_i px; go_at_call 52; exact calls_inh (text_rs (BigIs.mk (HS.out.below (inh_low HB.out px))) HT)) | (go_at_call 53; with_reducible exact calls_inh (over_I _ _)))); refine wpQuiet_nil ⟨?hd, ?_⟩; (case hd => (simp only [dstVh, Array.getD_eq_getD_getElem?, List.getElem?_toArray, List.getElem?_cons_zero, List.getElem?_cons_succ, Option.getD_some, List.getD_cons_zero, List.getD_cons_succ]; exact rfl))); (refine lexH_quiet rfl ?_; go_big_quiet_step (first | exact rfl | (first | (go_at_call 51; with_reducible exact calls_inh (text_ws HT)) | (rename_i px; go_at_call 52; exact calls_inh (text_rs (BigIs.mk (HS.out.below (inh_low HB.out px))) HT)) | (go_at_call 53; with_reducible exact calls_inh (over_I _ _)))); refine wpQuiet_nil ⟨?hd, ?_⟩; (case hd => (simp only [dstVh, Array.getD_eq_getD_getElem?, List.getElem?_toArray, List.getElem?_cons_zero, List.getElem?_cons_succ, Option.getD_some, List.getD_cons_zero, List.getD_cons_succ]; exact rfl))); (refine lexH_quiet rfl ?_; go_big_quiet_step (first | exact rfl | (first | (go_at_call 51; with_reducible exact calls_inh (text_ws HT)) | (rename_i px; go_at_call 52; exact calls_inh (text_rs (BigIs.mk (HS.out.below (inh_low HB.out px))) HT)) | (go_at_call 53; with_reducible exact calls_inh (over_I _ _)))); refine wpQuiet_nil ⟨?hd, ?_⟩; (case hd => (simp only [dstVh, Array.getD_eq_getD_getElem?, List.getElem?_toArray, List.getElem?_cons_zero, List.getElem?_cons_succ, Option.getD_some, List.getD_cons_zero, List.getD_cons_succ]; exact rfl))); (refine lexH_quiet rfl ?_; go_big_quiet_step (first | exact rfl | (first | (go_at_call 51; with_reducible exact calls_inh (text_ws HT)) | (rename_i px; go_at_call 52; exact calls_inh (text_rs (BigIs.mk (HS.out.below (inh_low HB.out px))) HT)) | (go_at_call 53; with_reducible exact calls_inh (over_I _ _)))); refine wpQuiet_nil ⟨?hd, ?_⟩; (case hd => (simp only [dstVh, Array.getD_eq_getD_getElem?, List.getElem?_toArray, List.getElem?_cons_zero, List.getElem?_cons_succ, Option.getD_some, List.getD_cons_zero, List.getD_cons_succ]; exact rfl)))
  refine lexH_nil ?_
  intro u1 hb1' hh
  have hb1 : Below u.heap.size u u1 := hb1'
  clear hb1' hh ra q0 q1 q2
  refine wpList_nil ?_
  go_wp2_with fail
  go_ret
  exact ⟨rfl, HB0.out.trans (hb1.mono HB0.out.size)⟩
end Go.Proofs.Ytilginoibhfeiaa
