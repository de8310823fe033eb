/- The walk of alidadelaw13.FrameDecodes. The walk of alidadelaw13.FrameDecodes where the sum is made right. -/
import Derived.Test.YtdipecepgfaokaaND
namespace Go.Proofs.Ytdipecepgfaokaa
set_option linter.unusedSimpArgs false
set_option linter.unusedVariables false
open Go.RowKit

theorem full76 {w : World} {B g cb : Nat} {xs : List Nat} (h : OwnR w B (.slice (some ⟨g, 0, none⟩) 80 cb) xs) (hl : xs.length = 80) : FullB w (.slice (some ⟨g, 0, none⟩) 76 76) (xs.take 76) := by
  obtain ⟨g', c', e, -, hgl, -, cl, -⟩ := h.head (by omega)
  simp only [Value.slice.injEq, Option.some.injEq, Addr.mk.injEq] at e
  obtain ⟨⟨rfl, -, -⟩, -, -⟩ := e
  have hl' : (xs.take 76).length = 76 := by rw [List.length_take]; omega
  refine ⟨byt_take h.1 76, g, by rw [hl'], hgl, fun j hj => ?_⟩
  rw [hl'] at hj
  rw [cl j (by omega), List.getD_eq_getElem?_getD, List.getD_eq_getElem?_getD, List.getElem?_take_of_lt hj]
set_option maxRecDepth 100000 in
set_option maxHeartbeats 16000000 in
theorem frameDecodes_l1 (k s bo sq st ds ta tb wh wn x y a b d : Int) (A : Option Addr) (len cap : Nat) (T : Nat → Int) (z : Nat) (rt : Bool) (vm : Value) (ys : List Nat) (ct : Int) (vr : Value) (rs : List Nat) (hz : z < 256) (w : World) (hA : IntsA w A len T) (hlen : len ≤ 9223372036854775807) (hm : BytA w vm ys) (hr : BytA w vr rs) (hl1 : 300 < rs.length) :
    Calls Try.prog 4 #[frC k s bo sq st ds ta tb wh wn x y a b d, .slice A len cap, .int .u8 (z : Int), .bool rt, vm, .int .i64 ct, vr] w fun e w' => e = .returned (.bool true) ∧ Below w.heap.size w w' := by
  obtain ⟨am, cm, rfl⟩ := hm.1.form
  obtain ⟨ar, cr, rfl⟩ := hr.1.form
  obtain ⟨nm, hnm⟩ : ∃ n, ys.length = n := ⟨_, rfl⟩
  obtain ⟨nr, hnr⟩ : ∃ n, rs.length = n := ⟨_, rfl⟩
  rw [hnm] at hm ⊢
  rw [hnr] at hr ⊢
  have hi1 : (300 : Int) < (nr : Int) := by omega
  clear hA hm hr
  go_enter Try.func4, Try.ntmps4
  go_wp2_with fail
  refine Calls.mono (awake_c _) ?_; rintro e w1 ⟨rfl, hb1⟩
  have z1 := hb1.size
  simp at z1
  go_wp2_with fail
  go_ret
  exact ⟨rfl, (by repeat (first | with_reducible exact Below.refl _ _ | with_reducible exact Below_of_hid (by assumption) | with_reducible refine Below.drew ?_ | with_reducible refine below_drewN ?_ _ | (with_reducible refine Below_putRow ?_ ?hB _ _; case hB => (first | omega | (simp; done) | (simp; omega))) | (with_reducible refine Below.alloc ?_ ?hB _; case hB => (first | omega | (simp; done) | (simp; omega))) | (with_reducible refine Below.setCell ?_ ?hB _; case hB => (first | omega | (simp; done) | (simp; omega))) | (with_reducible refine Below.trans ?_ (Below.mono (by assumption) ?hB); case hB => (first | omega | (simp; done) | (simp; omega)))))⟩
set_option maxRecDepth 100000 in
set_option maxHeartbeats 16000000 in
theorem frameDecodes_l2 (k s bo sq st ds ta tb wh wn x y a b d : Int) (A : Option Addr) (len cap : Nat) (T : Nat → Int) (z : Nat) (rt : Bool) (vm : Value) (ys : List Nat) (ct : Int) (vr : Value) (rs : List Nat) (hz : z < 256) (w : World) (hA : IntsA w A len T) (hlen : len ≤ 9223372036854775807) (hm : BytA w vm ys) (hr : BytA w vr rs) (hl1 : rs.length ≤ 300) (hl2 : 100 < ys.length) :
    Calls Try.prog 4 #[frC k s bo sq st ds ta tb wh wn x y a b d, .slice A len cap, .int .u8 (z : Int), .bool rt, vm, .int .i64 ct, vr] w fun e w' => e = .returned (.bool true) ∧ Below w.heap.size w w' := by
  obtain ⟨am, cm, rfl⟩ := hm.1.form
  obtain ⟨ar, cr, rfl⟩ := hr.1.form
  obtain ⟨nm, hnm⟩ : ∃ n, ys.length = n := ⟨_, rfl⟩
  obtain ⟨nr, hnr⟩ : ∃ n, rs.length = n := ⟨_, rfl⟩
  rw [hnm] at hm ⊢
  rw [hnr] at hr ⊢
  have hi1 : ¬ (300 : Int) < (nr : Int) := by omega
  have hi2 : (100 : Int) < (nm : Int) := by omega
  clear hA hm hr
  go_enter Try.func4, Try.ntmps4
  go_wp2_with fail
  refine Calls.mono (awake_c _) ?_; rintro e w1 ⟨rfl, hb1⟩
  have z1 := hb1.size
  simp at z1
  go_wp2_with fail
  go_ret
  exact ⟨rfl, (by repeat (first | with_reducible exact Below.refl _ _ | with_reducible exact Below_of_hid (by assumption) | with_reducible refine Below.drew ?_ | with_reducible refine below_drewN ?_ _ | (with_reducible refine Below_putRow ?_ ?hB _ _; case hB => (first | omega | (simp; done) | (simp; omega))) | (with_reducible refine Below.alloc ?_ ?hB _; case hB => (first | omega | (simp; done) | (simp; omega))) | (with_reducible refine Below.setCell ?_ ?hB _; case hB => (first | omega | (simp; done) | (simp; omega))) | (with_reducible refine Below.trans ?_ (Below.mono (by assumption) ?hB); case hB => (first | omega | (simp; done) | (simp; omega)))))⟩
set_option maxRecDepth 100000 in
set_option maxHeartbeats 16000000 in
theorem frameDecodes_n (k s bo sq st ds ta tb wh wn x y a b d : Int) (A : Option Addr) (len cap : Nat) (T : Nat → Int) (z : Nat) (rt : Bool) (vm : Value) (ys : List Nat) (ct : Int) (vr : Value) (rs : List Nat) (hz : z < 256) (w : World) (hA : IntsA w A len T) (hlen : len ≤ 9223372036854775807) (hm : BytA w vm ys) (hr : BytA w vr rs) (hl1 : rs.length ≤ 300) (hl2 : ys.length ≤ 100) (hmay : mayF ⟨k, s, bo, sq, st, ds, ta, tb, wh, wn, x, y, a, b, d⟩ = false) :
    Calls Try.prog 4 #[frC k s bo sq st ds ta tb wh wn x y a b d, .slice A len cap, .int .u8 (z : Int), .bool rt, vm, .int .i64 ct, vr] w fun e w' => e = .returned (.bool true) ∧ Below w.heap.size w w' := by
  obtain ⟨am, cm, rfl⟩ := hm.1.form
  obtain ⟨ar, cr, rfl⟩ := hr.1.form
  obtain ⟨nm, hnm⟩ : ∃ n, ys.length = n := ⟨_, rfl⟩
  obtain ⟨nr, hnr⟩ : ∃ n, rs.length = n := ⟨_, rfl⟩
  rw [hnm] at hm ⊢
  rw [hnr] at hr ⊢
  have hi1 : ¬ (300 : Int) < (nr : Int) := by omega
  have hi2 : ¬ (100 : Int) < (nm : Int) := by omega
  have HA := Lib.hid hA
  have HMm0 := Lib.hid hm
  have HMr0 := Lib.hid hr
  have HM := Lib.hid hmay
  have HNM := Lib.hid hnm
  have HNR := Lib.hid hnr
  clear hA hm hr hmay hnm hnr
  go_enter Try.func4, Try.ntmps4
  go_wp2_with fail
  refine name_calls ?_; intro u0 hu0
  obtain ⟨b0, hb0⟩ : ∃ b0, b0 = w.heap.size := ⟨_, rfl⟩
  have HB0 := Lib.hid hb0
  have HB : Hid (Below b0 w u0) := by rw [hu0, hb0]; show Below w.heap.size w _; exact (by repeat (first | with_reducible exact Below.refl _ _ | with_reducible exact Below_of_hid (by assumption) | with_reducible refine Below.drew ?_ | with_reducible refine below_drewN ?_ _ | (with_reducible refine Below_putRow ?_ ?hB _ _; case hB => (first | omega | (simp; done) | (simp; omega))) | (with_reducible refine Below.alloc ?_ ?hB _; case hB => (first | omega | (simp; done) | (simp; omega))) | (with_reducible refine Below.setCell ?_ ?hB _; case hB => (first | omega | (simp; done) | (simp; omega))) | (with_reducible refine Below.trans ?_ (Below.mono (by assumption) ?hB); case hB => (first | omega | (simp; done) | (simp; omega)))))
  have hz0 : b0 < u0.heap.size := by rw [hu0, hb0]; simp
  clear hu0 hb0
  refine Calls.mono (rencode_no ⟨k, s, bo, sq, st, ds, ta, tb, wh, wn, x, y, a, b, d⟩ HM.out _) ?_; rintro e w1 ⟨rfl, hb1⟩
  replace HB := Lib.hid (HB.out.trans (hb1.mono (by omega)))
  have z1 := hb1.size
  clear hb1 HA HMm0
  have HBy : Hid (RdB w1 (.slice none 0 0) []) := ⟨(fun c hc => by cases hc), none, 0, rfl, Nat.le_refl _, fun j hj => absurd hj (Nat.not_lt_zero _)⟩
  have HMr : Hid (BytA w1 (.slice ar nr cr) rs) := HMr0.out.below (by rw [← HB0.out]; exact HB.out)
  obtain ⟨⟨FA, nA⟩, hdA⟩ : ∃ z', decE ([] : List Nat) = z' := ⟨_, rfl⟩
  obtain ⟨⟨FB, nB⟩, hdB⟩ : ∃ z', decE rs = z' := ⟨_, rfl⟩
  have HDA := Lib.hid hdA
  have HDB := Lib.hid hdB
  clear hdA hdB
  have i0 : ∀ w' : World, Sem.run Try.prog (Instr.index 41 (.agg #[.slice none 0 0, .slice ar nr cr]) (.int .i64 0)) w' = .ok (.slice none 0 0) w' := fun w' => rfl
  have i1 : ∀ w' : World, Sem.run Try.prog (Instr.index 41 (.agg #[.slice none 0 0, .slice ar nr cr]) (.int .i64 1)) w' = .ok (.slice ar nr cr) w' := fun w' => rfl
  go_wp2_with fail
  go_loopw [95] (fun t95 wr => ∃ j : Nat, j ≤ 2 ∧ t95 = .int .i64 j ∧ Hid (Below w1.heap.size w1 wr)) (fun t95 _ => 2 - (intOf t95).toNat)
  case atStart => exact ⟨0, by omega, rfl, Below.refl _ _⟩
  case round =>
    obtain ⟨j, hj, rfl, hbr⟩ := hrel
    have hzr := hbr.out.size
    rcases j with _ | _ | _ | j
    · have q5 : ∀ w' : World, Sem.run Try.prog (binOp .neq 29 (.agg #[.int .i64 FA.kind, .int .i64 FA.src, .int .i64 FA.boot, .int .i64 FA.seq, .int .i64 FA.stamp, .int .i64 FA.dst, .int .i64 FA.t1, .int .i64 FA.t2, .int .i64 FA.who, .int .i64 FA.when, .int .i64 FA.x, .int .i64 FA.y, .int .i64 FA.a, .int .i64 FA.b, .int .i64 FA.d]) (.agg #[.int .i64 FA.kind, .int .i64 FA.src, .int .i64 FA.boot, .int .i64 FA.seq, .int .i64 FA.stamp, .int .i64 FA.dst, .int .i64 FA.t1, .int .i64 FA.t2, .int .i64 FA.who, .int .i64 FA.when, .int .i64 FA.x, .int .i64 FA.y, .int .i64 FA.a, .int .i64 FA.b, .int .i64 FA.d])) w' = .ok (.bool false) w' := fun w' => by rw [neq_fr]; simp
      have q6 : ∀ (p q : Operand) (w' : World), Sem.run Try.prog (eqGuard .neq 29 p q (.agg #[.int .i64 FA.kind, .int .i64 FA.src, .int .i64 FA.boot, .int .i64 FA.seq, .int .i64 FA.stamp, .int .i64 FA.dst, .int .i64 FA.t1, .int .i64 FA.t2, .int .i64 FA.who, .int .i64 FA.when, .int .i64 FA.x, .int .i64 FA.y, .int .i64 FA.a, .int .i64 FA.b, .int .i64 FA.d]) (.agg #[.int .i64 FA.kind, .int .i64 FA.src, .int .i64 FA.boot, .int .i64 FA.seq, .int .i64 FA.stamp, .int .i64 FA.dst, .int .i64 FA.t1, .int .i64 FA.t2, .int .i64 FA.who, .int .i64 FA.when, .int .i64 FA.x, .int .i64 FA.y, .int .i64 FA.a, .int .i64 FA.b, .int .i64 FA.d])) w' = .ok () w' := fun p q w' => eqg_fr .neq p q FA FA w'
      go_wp2_with fail
      refine Calls.mono (decode_v _ _ FA nA HDA.out _ (HBy.out.below hbr.out)) ?_; rintro e x2 ⟨rfl, hb2⟩
      have HX := Lib.hid (hbr.out.trans (hb2.mono hbr.out.size))
      have z2 := hb2.size
      clear hb2
      go_wp2_with fail
      refine name_calls ?_; intro u3 hu3
      have BP : Hid (Blk u3 x2.heap.size #[.int .i64 FA.kind, .int .i64 FA.src, .int .i64 FA.boot, .int .i64 FA.seq, .int .i64 FA.stamp, .int .i64 FA.dst, .int .i64 FA.t1, .int .i64 FA.t2, .int .i64 FA.who, .int .i64 FA.when, .int .i64 FA.x, .int .i64 FA.y, .int .i64 FA.a, .int .i64 FA.b, .int .i64 FA.d] 29) := by rw [hu3]; exact Blk.new _ _ _
      have hbA : Below x2.heap.size x2 u3 := by rw [hu3]; exact (Below.refl _ _).alloc (Nat.le_refl _) _
      have HX3 := Lib.hid (HX.out.trans (hbA.mono (by omega)))
      have l3 := BP.out.lt
      clear hu3 hbA
      refine Calls.mono (rdecode_v _ _ FA nA HDA.out _ (HBy.out.below HX3.out)) ?_; rintro e x4 ⟨rfl, hb4⟩
      have HX4 := Lib.hid (HX3.out.trans (hb4.mono (by omega)))
      replace BP := Lib.hid (BP.out.keep hb4)
      have z4 := hb4.size
      clear hb4
      have rp := BP.out.row?_all 15 rfl
      have lp := BP.out.lt
      go_wp2_with fail
      go_roundw
      case rel => (first | exact ⟨1, by omega, rfl, by show Below _ _ _; exact HX4.out.alloc (by omega) _⟩ | ((repeat apply Exists.intro); exact ⟨⟨1, by omega, rfl, by show Below _ _ _; exact HX4.out.alloc (by omega) _⟩, rfl⟩))
      case measure => first | (simp [intOf]; done) | (simp [intOf]; omega)
    · have q5 : ∀ w' : World, Sem.run Try.prog (binOp .neq 29 (.agg #[.int .i64 FB.kind, .int .i64 FB.src, .int .i64 FB.boot, .int .i64 FB.seq, .int .i64 FB.stamp, .int .i64 FB.dst, .int .i64 FB.t1, .int .i64 FB.t2, .int .i64 FB.who, .int .i64 FB.when, .int .i64 FB.x, .int .i64 FB.y, .int .i64 FB.a, .int .i64 FB.b, .int .i64 FB.d]) (.agg #[.int .i64 FB.kind, .int .i64 FB.src, .int .i64 FB.boot, .int .i64 FB.seq, .int .i64 FB.stamp, .int .i64 FB.dst, .int .i64 FB.t1, .int .i64 FB.t2, .int .i64 FB.who, .int .i64 FB.when, .int .i64 FB.x, .int .i64 FB.y, .int .i64 FB.a, .int .i64 FB.b, .int .i64 FB.d])) w' = .ok (.bool false) w' := fun w' => by rw [neq_fr]; simp
      have q6 : ∀ (p q : Operand) (w' : World), Sem.run Try.prog (eqGuard .neq 29 p q (.agg #[.int .i64 FB.kind, .int .i64 FB.src, .int .i64 FB.boot, .int .i64 FB.seq, .int .i64 FB.stamp, .int .i64 FB.dst, .int .i64 FB.t1, .int .i64 FB.t2, .int .i64 FB.who, .int .i64 FB.when, .int .i64 FB.x, .int .i64 FB.y, .int .i64 FB.a, .int .i64 FB.b, .int .i64 FB.d]) (.agg #[.int .i64 FB.kind, .int .i64 FB.src, .int .i64 FB.boot, .int .i64 FB.seq, .int .i64 FB.stamp, .int .i64 FB.dst, .int .i64 FB.t1, .int .i64 FB.t2, .int .i64 FB.who, .int .i64 FB.when, .int .i64 FB.x, .int .i64 FB.y, .int .i64 FB.a, .int .i64 FB.b, .int .i64 FB.d])) w' = .ok () w' := fun p q w' => eqg_fr .neq p q FB FB w'
      go_wp2_with fail
      refine Calls.mono (decode_v _ _ FB nB HDB.out _ (HMr.out.1.below hbr.out)) ?_; rintro e x2 ⟨rfl, hb2⟩
      have HX := Lib.hid (hbr.out.trans (hb2.mono hbr.out.size))
      have z2 := hb2.size
      clear hb2
      go_wp2_with fail
      refine name_calls ?_; intro u3 hu3
      have BP : Hid (Blk u3 x2.heap.size #[.int .i64 FB.kind, .int .i64 FB.src, .int .i64 FB.boot, .int .i64 FB.seq, .int .i64 FB.stamp, .int .i64 FB.dst, .int .i64 FB.t1, .int .i64 FB.t2, .int .i64 FB.who, .int .i64 FB.when, .int .i64 FB.x, .int .i64 FB.y, .int .i64 FB.a, .int .i64 FB.b, .int .i64 FB.d] 29) := by rw [hu3]; exact Blk.new _ _ _
      have hbA : Below x2.heap.size x2 u3 := by rw [hu3]; exact (Below.refl _ _).alloc (Nat.le_refl _) _
      have HX3 := Lib.hid (HX.out.trans (hbA.mono (by omega)))
      have l3 := BP.out.lt
      clear hu3 hbA
      refine Calls.mono (rdecode_v _ _ FB nB HDB.out _ (HMr.out.1.below HX3.out)) ?_; rintro e x4 ⟨rfl, hb4⟩
      have HX4 := Lib.hid (HX3.out.trans (hb4.mono (by omega)))
      replace BP := Lib.hid (BP.out.keep hb4)
      have z4 := hb4.size
      clear hb4
      have rp := BP.out.row?_all 15 rfl
      have lp := BP.out.lt
      go_wp2_with fail
      go_roundw
      case rel => (first | exact ⟨2, by omega, rfl, by show Below _ _ _; exact HX4.out.alloc (by omega) _⟩ | ((repeat apply Exists.intro); exact ⟨⟨2, by omega, rfl, by show Below _ _ _; exact HX4.out.alloc (by omega) _⟩, rfl⟩))
      case measure => first | (simp [intOf]; done) | (simp [intOf]; omega)
    · go_wp2_with fail
      refine Calls.mono (awake_c _) ?_; rintro e x5 ⟨rfl, hb5⟩
      go_wp2_with fail
      go_ret
      exact ⟨rfl, by rw [← HB0.out]; exact HB.out.trans ((hbr.out.trans (hb5.mono hbr.out.size)).mono (by omega))⟩
    · exfalso; omega
set_option maxRecDepth 100000 in
set_option maxHeartbeats 16000000 in
theorem frameDecodes_r (k s bo sq st ds ta tb wh wn x y a b d : Int) (A : Option Addr) (len cap : Nat) (T : Nat → Int) (z : Nat) (vm : Value) (ys : List Nat) (ct : Int) (vr : Value) (rs : List Nat) (hz : z < 256) (w : World) (hA : IntsA w A len T) (hlen : len ≤ 9223372036854775807) (hm : BytA w vm ys) (hr : BytA w vr rs) (hl1 : rs.length ≤ 300) (hl2 : ys.length ≤ 100) (hmay : mayF ⟨k, s, bo, sq, st, ds, ta, tb, wh, wn, x, y, a, b, d⟩ = true) :
    Calls Try.prog 4 #[frC k s bo sq st ds ta tb wh wn x y a b d, .slice A len cap, .int .u8 (z : Int), .bool false, vm, .int .i64 ct, vr] w fun e w' => e = .returned (.bool true) ∧ Below w.heap.size w w' := by
  obtain ⟨am, cm, rfl⟩ := hm.1.form
  obtain ⟨ar, cr, rfl⟩ := hr.1.form
  obtain ⟨nm, hnm⟩ : ∃ n, ys.length = n := ⟨_, rfl⟩
  obtain ⟨nr, hnr⟩ : ∃ n, rs.length = n := ⟨_, rfl⟩
  rw [hnm] at hm ⊢
  rw [hnr] at hr ⊢
  have hi1 : ¬ (300 : Int) < (nr : Int) := by omega
  have hi2 : ¬ (100 : Int) < (nm : Int) := by omega
  have HA := Lib.hid hA
  have HMm0 := Lib.hid hm
  have HMr0 := Lib.hid hr
  have HM := Lib.hid hmay
  have HNM := Lib.hid hnm
  have HNR := Lib.hid hnr
  clear hA hm hr hmay hnm hnr
  obtain ⟨c, hc, hcl⟩ := u64_place ct 3 (by decide) (by decide)
  have hc : wrap64 ((IntKind.u64.wrap ct).tmod 3) = (c : Int) := hc
  have HC := Lib.hid hc
  clear hc
  go_enter Try.func4, Try.ntmps4
  go_wp2_with fail
  refine name_calls ?_; intro u0 hu0
  obtain ⟨b0, hb0⟩ : ∃ b0, b0 = w.heap.size := ⟨_, rfl⟩
  have HB0 := Lib.hid hb0
  have HB : Hid (Below b0 w u0) := by rw [hu0, hb0]; show Below w.heap.size w _; exact (by repeat (first | with_reducible exact Below.refl _ _ | with_reducible exact Below_of_hid (by assumption) | with_reducible refine Below.drew ?_ | with_reducible refine below_drewN ?_ _ | (with_reducible refine Below_putRow ?_ ?hB _ _; case hB => (first | omega | (simp; done) | (simp; omega))) | (with_reducible refine Below.alloc ?_ ?hB _; case hB => (first | omega | (simp; done) | (simp; omega))) | (with_reducible refine Below.setCell ?_ ?hB _; case hB => (first | omega | (simp; done) | (simp; omega))) | (with_reducible refine Below.trans ?_ (Below.mono (by assumption) ?hB); case hB => (first | omega | (simp; done) | (simp; omega)))))
  have hz0 : b0 < u0.heap.size := by rw [hu0, hb0]; simp
  clear hu0 hb0
  refine Calls.mono (rencode_x ⟨k, s, bo, sq, st, ds, ta, tb, wh, wn, x, y, a, b, d⟩ HM.out _) ?_; rintro e w1 ⟨⟨ao, cb, rfl, ho⟩, hb1⟩
  replace HB := Lib.hid (HB.out.trans (hb1.mono (by omega)))
  have z1 := hb1.size
  clear hb1
  obtain ⟨g, cb', e, hBg, hgl, hcb, -, -⟩ := ho.head (by rw [enc_len]; omega)
  rw [enc_len] at e hcb
  simp only [Value.slice.injEq] at e
  obtain ⟨rfl, -, rfl⟩ := e
  obtain ⟨B, hB⟩ : ∃ B, B = u0.heap.size := ⟨_, rfl⟩
  rw [← hB] at ho hBg
  have zB : B ≤ w1.heap.size := by omega
  have zb : b0 < B := by omega
  clear hB
  have HO0 := Lib.hid ho
  have hle := Lib.hid (enc_len ⟨k, s, bo, sq, st, ds, ta, tb, wh, wn, x, y, a, b, d⟩)
  clear ho
  go_wp2_with fail
  go_loopw [44] (fun t44 wr => ∃ j : Nat, j ≤ len ∧ t44 = .int .i64 j ∧ Hid (∃ xs : List Nat, xs.length = 80 ∧ OwnR wr B (.slice (some ⟨g, 0, none⟩) 80 cb) xs) ∧ Hid (OnlyAt g w1 wr)) (fun t44 _ => len - (intOf t44).toNat)
  case atStart => exact ⟨0, by omega, rfl, ⟨_, hle.out, HO0.out⟩, OnlyAt.refl⟩
  case round =>
    obtain ⟨j, hj, rfl, ⟨xs, hxl, hO⟩, hbr⟩ := hrel
    have HO := Lib.hid hO
    have HXL := Lib.hid hxl
    have hzr := hbr.out.size
    have HBr : Hid (Below b0 w wr) := hbr.out.below HB.out (by rw [HB0.out]; exact Nat.le_refl _) (by omega)
    clear hO hxl
    by_cases hlt : j < len
    · obtain ⟨bA, oA, rfl, hbA, hcj⟩ := (HA.out.below (by rw [← HB0.out]; exact HBr.out) : IntsA wr A len T) j hlt
      clear HA HO0 HMm0 HMr0
      obtain ⟨i, hi, hil⟩ := u64_place (T j) 80 (by decide) (by decide)
      have hi : wrap64 ((IntKind.u64.wrap (T j)).tmod 80) = (i : Int) := hi
      obtain ⟨Tj, hTj⟩ : ∃ t, t = T j := ⟨_, rfl⟩
      rw [← hTj] at hi hcj
      clear hTj
      by_cases h4 : j < 4
      · obtain ⟨g', c', e, -, hgl2, -, cl, fz⟩ := HO.out.head (by have := HXL.out; omega)
        simp only [Value.slice.injEq, Option.some.injEq, Addr.mk.injEq] at e
        obtain ⟨⟨rfl, -, -⟩, -, -⟩ := e
        have hci := cl i (by have := HXL.out; omega)
        have hel := byt_getD HO.out.1 i
        obtain ⟨ei, hei⟩ : ∃ e, xs.getD i 0 = e := ⟨_, rfl⟩
        rw [hei] at hci hel
        have hxr := u8_xor_nat ei z hel hz
        have hex : ei ^^^ z < 256 := Nat.xor_lt_two_pow (n := 8) hel hz
        have ii : (i : Int) < 80 := by omega
        have ji : (j : Int) < 4 := by omega
        clear cl hei
        go_wp2_with fail
        go_roundw
        case rel => exact ⟨j + 1, by omega, by go_num, ⟨xs.set i (ei ^^^ z), by rw [List.length_set]; exact HXL.out, HO.out.store i (ei ^^^ z) hex⟩, by show OnlyAt _ _ _; exact hbr.out.setCell i _⟩
        case measure => first | (simp [intOf]; done) | (simp [intOf]; omega)
      · have ji : ¬ (j : Int) < 4 := by omega
        clear hi
        go_wp2_with fail
        go_roundw
        case rel => exact ⟨j + 1, by omega, by go_num, ⟨xs, HXL.out, HO.out⟩, hbr⟩
        case measure => first | (simp [intOf]; done) | (simp [intOf]; omega)
    · have hjl : j = len := by omega
      subst hjl
      obtain ⟨g', c', e, -, hgl2, -, cl, fz⟩ := HO.out.head (by have := HXL.out; omega)
      simp only [Value.slice.injEq, Option.some.injEq, Addr.mk.injEq] at e
      obtain ⟨⟨rfl, -, -⟩, -, -⟩ := e
      replace HB := HBr
      clear hbr HA HO0 HBr hle
      clear cl fz
      obtain ⟨n8, hn8⟩ : ∃ n : Nat, (80 : Int) - (c : Int) = (n : Int) := ⟨80 - c, by omega⟩
      have hn8l : n8 ≤ 80 := by omega
      have hc := HC.out
      have HMm : Hid (BytA wr (.slice am nm cm) ys) := HMm0.out.below (by rw [← HB0.out]; exact HB.out)
      obtain ⟨v8, w8, hr8, ho8, hb8⟩ := append_any (HO.out.cutS n8 hn8l) HMm.out (by omega) (by rw [List.length_take]; omega) (by rw [HNM.out]; omega)
      replace HB := Lib.hid (HB.out.trans (hb8.mono (by omega)))
      have z8 := hb8.size
      have HMr : Hid (BytA w8 (.slice ar nr cr) rs) := HMr0.out.below (by rw [← HB0.out]; exact HB.out)
      have HR8 := Lib.hid hr8
      have HBy := Lib.hid ho8.rd
      obtain ⟨X8, hX8⟩ : ∃ X, X = List.take n8 xs ++ ys := ⟨_, rfl⟩
      rw [← hX8] at HBy
      obtain ⟨a8, c8, hv8⟩ := HBy.out.form
      obtain ⟨n9, hn9⟩ : ∃ n, X8.length = n := ⟨_, rfl⟩
      rw [hn9] at hv8
      rw [hv8] at HR8 HBy
      have n8c : (n8 : Int) ≤ (cb : Int) := by omega
      clear hr8 ho8 hv8 hX8 hn9 hb8 HMm HMm0
      obtain ⟨⟨FA, nA⟩, hdA⟩ : ∃ z', decE X8 = z' := ⟨_, rfl⟩
      obtain ⟨⟨FB, nB⟩, hdB⟩ : ∃ z', decE rs = z' := ⟨_, rfl⟩
      have HDA := Lib.hid hdA
      have HDB := Lib.hid hdB
      clear hdA hdB
      have i0 : ∀ w' : World, Sem.run Try.prog (Instr.index 41 (.agg #[.slice a8 n9 c8, .slice ar nr cr]) (.int .i64 0)) w' = .ok (.slice a8 n9 c8) w' := fun w' => rfl
      have i1 : ∀ w' : World, Sem.run Try.prog (Instr.index 41 (.agg #[.slice a8 n9 c8, .slice ar nr cr]) (.int .i64 1)) w' = .ok (.slice ar nr cr) w' := fun w' => rfl
      go_wp2_with (at_builtin; refine wpList_append_run rfl _ _ 30 rfl HR8.out rfl rfl ?_)
      go_loopw [95] (fun t95 wr => ∃ j : Nat, j ≤ 2 ∧ t95 = .int .i64 j ∧ Hid (Below w8.heap.size w8 wr)) (fun t95 _ => 2 - (intOf t95).toNat)
      case atStart => exact ⟨0, by omega, rfl, Below.refl _ _⟩
      case round =>
        obtain ⟨j, hj, rfl, hbr⟩ := hrel
        have hzr := hbr.out.size
        rcases j with _ | _ | _ | j
        · have q5 : ∀ w' : World, Sem.run Try.prog (binOp .neq 29 (.agg #[.int .i64 FA.kind, .int .i64 FA.src, .int .i64 FA.boot, .int .i64 FA.seq, .int .i64 FA.stamp, .int .i64 FA.dst, .int .i64 FA.t1, .int .i64 FA.t2, .int .i64 FA.who, .int .i64 FA.when, .int .i64 FA.x, .int .i64 FA.y, .int .i64 FA.a, .int .i64 FA.b, .int .i64 FA.d]) (.agg #[.int .i64 FA.kind, .int .i64 FA.src, .int .i64 FA.boot, .int .i64 FA.seq, .int .i64 FA.stamp, .int .i64 FA.dst, .int .i64 FA.t1, .int .i64 FA.t2, .int .i64 FA.who, .int .i64 FA.when, .int .i64 FA.x, .int .i64 FA.y, .int .i64 FA.a, .int .i64 FA.b, .int .i64 FA.d])) w' = .ok (.bool false) w' := fun w' => by rw [neq_fr]; simp
          have q6 : ∀ (p q : Operand) (w' : World), Sem.run Try.prog (eqGuard .neq 29 p q (.agg #[.int .i64 FA.kind, .int .i64 FA.src, .int .i64 FA.boot, .int .i64 FA.seq, .int .i64 FA.stamp, .int .i64 FA.dst, .int .i64 FA.t1, .int .i64 FA.t2, .int .i64 FA.who, .int .i64 FA.when, .int .i64 FA.x, .int .i64 FA.y, .int .i64 FA.a, .int .i64 FA.b, .int .i64 FA.d]) (.agg #[.int .i64 FA.kind, .int .i64 FA.src, .int .i64 FA.boot, .int .i64 FA.seq, .int .i64 FA.stamp, .int .i64 FA.dst, .int .i64 FA.t1, .int .i64 FA.t2, .int .i64 FA.who, .int .i64 FA.when, .int .i64 FA.x, .int .i64 FA.y, .int .i64 FA.a, .int .i64 FA.b, .int .i64 FA.d])) w' = .ok () w' := fun p q w' => eqg_fr .neq p q FA FA w'
          go_wp2_with fail
          refine Calls.mono (decode_v _ _ FA nA HDA.out _ (HBy.out.below hbr.out)) ?_; rintro e x2 ⟨rfl, hb2⟩
          have HX := Lib.hid (hbr.out.trans (hb2.mono hbr.out.size))
          have z2 := hb2.size
          clear hb2
          go_wp2_with fail
          refine name_calls ?_; intro u3 hu3
          have BP : Hid (Blk u3 x2.heap.size #[.int .i64 FA.kind, .int .i64 FA.src, .int .i64 FA.boot, .int .i64 FA.seq, .int .i64 FA.stamp, .int .i64 FA.dst, .int .i64 FA.t1, .int .i64 FA.t2, .int .i64 FA.who, .int .i64 FA.when, .int .i64 FA.x, .int .i64 FA.y, .int .i64 FA.a, .int .i64 FA.b, .int .i64 FA.d] 29) := by rw [hu3]; exact Blk.new _ _ _
          have hbA : Below x2.heap.size x2 u3 := by rw [hu3]; exact (Below.refl _ _).alloc (Nat.le_refl _) _
          have HX3 := Lib.hid (HX.out.trans (hbA.mono (by omega)))
          have l3 := BP.out.lt
          clear hu3 hbA
          refine Calls.mono (rdecode_v _ _ FA nA HDA.out _ (HBy.out.below HX3.out)) ?_; rintro e x4 ⟨rfl, hb4⟩
          have HX4 := Lib.hid (HX3.out.trans (hb4.mono (by omega)))
          replace BP := Lib.hid (BP.out.keep hb4)
          have z4 := hb4.size
          clear hb4
          have rp := BP.out.row?_all 15 rfl
          have lp := BP.out.lt
          go_wp2_with fail
          go_roundw
          case rel => (first | exact ⟨1, by omega, rfl, by show Below _ _ _; exact HX4.out.alloc (by omega) _⟩ | ((repeat apply Exists.intro); exact ⟨⟨1, by omega, rfl, by show Below _ _ _; exact HX4.out.alloc (by omega) _⟩, rfl⟩))
          case measure => first | (simp [intOf]; done) | (simp [intOf]; omega)
        · have q5 : ∀ w' : World, Sem.run Try.prog (binOp .neq 29 (.agg #[.int .i64 FB.kind, .int .i64 FB.src, .int .i64 FB.boot, .int .i64 FB.seq, .int .i64 FB.stamp, .int .i64 FB.dst, .int .i64 FB.t1, .int .i64 FB.t2, .int .i64 FB.who, .int .i64 FB.when, .int .i64 FB.x, .int .i64 FB.y, .int .i64 FB.a, .int .i64 FB.b, .int .i64 FB.d]) (.agg #[.int .i64 FB.kind, .int .i64 FB.src, .int .i64 FB.boot, .int .i64 FB.seq, .int .i64 FB.stamp, .int .i64 FB.dst, .int .i64 FB.t1, .int .i64 FB.t2, .int .i64 FB.who, .int .i64 FB.when, .int .i64 FB.x, .int .i64 FB.y, .int .i64 FB.a, .int .i64 FB.b, .int .i64 FB.d])) w' = .ok (.bool false) w' := fun w' => by rw [neq_fr]; simp
          have q6 : ∀ (p q : Operand) (w' : World), Sem.run Try.prog (eqGuard .neq 29 p q (.agg #[.int .i64 FB.kind, .int .i64 FB.src, .int .i64 FB.boot, .int .i64 FB.seq, .int .i64 FB.stamp, .int .i64 FB.dst, .int .i64 FB.t1, .int .i64 FB.t2, .int .i64 FB.who, .int .i64 FB.when, .int .i64 FB.x, .int .i64 FB.y, .int .i64 FB.a, .int .i64 FB.b, .int .i64 FB.d]) (.agg #[.int .i64 FB.kind, .int .i64 FB.src, .int .i64 FB.boot, .int .i64 FB.seq, .int .i64 FB.stamp, .int .i64 FB.dst, .int .i64 FB.t1, .int .i64 FB.t2, .int .i64 FB.who, .int .i64 FB.when, .int .i64 FB.x, .int .i64 FB.y, .int .i64 FB.a, .int .i64 FB.b, .int .i64 FB.d])) w' = .ok () w' := fun p q w' => eqg_fr .neq p q FB FB w'
          go_wp2_with fail
          refine Calls.mono (decode_v _ _ FB nB HDB.out _ (HMr.out.1.below hbr.out)) ?_; rintro e x2 ⟨rfl, hb2⟩
          have HX := Lib.hid (hbr.out.trans (hb2.mono hbr.out.size))
          have z2 := hb2.size
          clear hb2
          go_wp2_with fail
          refine name_calls ?_; intro u3 hu3
          have BP : Hid (Blk u3 x2.heap.size #[.int .i64 FB.kind, .int .i64 FB.src, .int .i64 FB.boot, .int .i64 FB.seq, .int .i64 FB.stamp, .int .i64 FB.dst, .int .i64 FB.t1, .int .i64 FB.t2, .int .i64 FB.who, .int .i64 FB.when, .int .i64 FB.x, .int .i64 FB.y, .int .i64 FB.a, .int .i64 FB.b, .int .i64 FB.d] 29) := by rw [hu3]; exact Blk.new _ _ _
          have hbA : Below x2.heap.size x2 u3 := by rw [hu3]; exact (Below.refl _ _).alloc (Nat.le_refl _) _
          have HX3 := Lib.hid (HX.out.trans (hbA.mono (by omega)))
          have l3 := BP.out.lt
          clear hu3 hbA
          refine Calls.mono (rdecode_v _ _ FB nB HDB.out _ (HMr.out.1.below HX3.out)) ?_; rintro e x4 ⟨rfl, hb4⟩
          have HX4 := Lib.hid (HX3.out.trans (hb4.mono (by omega)))
          replace BP := Lib.hid (BP.out.keep hb4)
          have z4 := hb4.size
          clear hb4
          have rp := BP.out.row?_all 15 rfl
          have lp := BP.out.lt
          go_wp2_with fail
          go_roundw
          case rel => (first | exact ⟨2, by omega, rfl, by show Below _ _ _; exact HX4.out.alloc (by omega) _⟩ | ((repeat apply Exists.intro); exact ⟨⟨2, by omega, rfl, by show Below _ _ _; exact HX4.out.alloc (by omega) _⟩, rfl⟩))
          case measure => first | (simp [intOf]; done) | (simp [intOf]; omega)
        · go_wp2_with fail
          refine Calls.mono (awake_c _) ?_; rintro e x5 ⟨rfl, hb5⟩
          go_wp2_with fail
          go_ret
          exact ⟨rfl, by rw [← HB0.out]; exact HB.out.trans ((hbr.out.trans (hb5.mono hbr.out.size)).mono (by omega))⟩
        · exfalso; omega
end Go.Proofs.Ytdipecepgfaokaa
namespace Go.Proofs.Ytdipecepgfaokaa
set_option linter.unusedSimpArgs false
set_option linter.unusedVariables false
open Go.RowKit

set_option maxRecDepth 100000 in
set_option maxHeartbeats 16000000 in
theorem frameDecodes_s (k s bo sq st ds ta tb wh wn x y a b d : Int) (A : Option Addr) (len cap : Nat) (T : Nat → Int) (z : Nat) (vm : Value) (ys : List Nat) (ct : Int) (vr : Value) (rs : List Nat) (hz : z < 256) (w : World) (hA : IntsA w A len T) (hlen : len ≤ 9223372036854775807) (hm : BytA w vm ys) (hr : BytA w vr rs) (hl1 : rs.length ≤ 300) (hl2 : ys.length ≤ 100) (hmay : mayF ⟨k, s, bo, sq, st, ds, ta, tb, wh, wn, x, y, a, b, d⟩ = true) :
    Calls Try.prog 4 #[frC k s bo sq st ds ta tb wh wn x y a b d, .slice A len cap, .int .u8 (z : Int), .bool true, vm, .int .i64 ct, vr] w fun e w' => e = .returned (.bool true) ∧ Below w.heap.size w w' := by
  obtain ⟨am, cm, rfl⟩ := hm.1.form
  obtain ⟨ar, cr, rfl⟩ := hr.1.form
  obtain ⟨nm, hnm⟩ : ∃ n, ys.length = n := ⟨_, rfl⟩
  obtain ⟨nr, hnr⟩ : ∃ n, rs.length = n := ⟨_, rfl⟩
  rw [hnm] at hm ⊢
  rw [hnr] at hr ⊢
  have hi1 : ¬ (300 : Int) < (nr : Int) := by omega
  have hi2 : ¬ (100 : Int) < (nm : Int) := by omega
  have HA := Lib.hid hA
  have HMm0 := Lib.hid hm
  have HMr0 := Lib.hid hr
  have HM := Lib.hid hmay
  have HNM := Lib.hid hnm
  have HNR := Lib.hid hnr
  clear hA hm hr hmay hnm hnr
  obtain ⟨c, hc, hcl⟩ := u64_place ct 3 (by decide) (by decide)
  have hc : wrap64 ((IntKind.u64.wrap ct).tmod 3) = (c : Int) := hc
  have HC := Lib.hid hc
  clear hc
  go_enter Try.func4, Try.ntmps4
  go_wp2_with fail
  refine name_calls ?_; intro u0 hu0
  obtain ⟨b0, hb0⟩ : ∃ b0, b0 = w.heap.size := ⟨_, rfl⟩
  have HB0 := Lib.hid hb0
  have HB : Hid (Below b0 w u0) := by rw [hu0, hb0]; show Below w.heap.size w _; exact (by repeat (first | with_reducible exact Below.refl _ _ | with_reducible exact Below_of_hid (by assumption) | with_reducible refine Below.drew ?_ | with_reducible refine below_drewN ?_ _ | (with_reducible refine Below_putRow ?_ ?hB _ _; case hB => (first | omega | (simp; done) | (simp; omega))) | (with_reducible refine Below.alloc ?_ ?hB _; case hB => (first | omega | (simp; done) | (simp; omega))) | (with_reducible refine Below.setCell ?_ ?hB _; case hB => (first | omega | (simp; done) | (simp; omega))) | (with_reducible refine Below.trans ?_ (Below.mono (by assumption) ?hB); case hB => (first | omega | (simp; done) | (simp; omega)))))
  have hz0 : b0 < u0.heap.size := by rw [hu0, hb0]; simp
  clear hu0 hb0
  refine Calls.mono (rencode_x ⟨k, s, bo, sq, st, ds, ta, tb, wh, wn, x, y, a, b, d⟩ HM.out _) ?_; rintro e w1 ⟨⟨ao, cb, rfl, ho⟩, hb1⟩
  replace HB := Lib.hid (HB.out.trans (hb1.mono (by omega)))
  have z1 := hb1.size
  clear hb1
  obtain ⟨g, cb', e, hBg, hgl, hcb, -, -⟩ := ho.head (by rw [enc_len]; omega)
  rw [enc_len] at e hcb
  simp only [Value.slice.injEq] at e
  obtain ⟨rfl, -, rfl⟩ := e
  obtain ⟨B, hB⟩ : ∃ B, B = u0.heap.size := ⟨_, rfl⟩
  rw [← hB] at ho hBg
  have zB : B ≤ w1.heap.size := by omega
  have zb : b0 < B := by omega
  clear hB
  have HO0 := Lib.hid ho
  have hle := Lib.hid (enc_len ⟨k, s, bo, sq, st, ds, ta, tb, wh, wn, x, y, a, b, d⟩)
  clear ho
  go_wp2_with fail
  go_loopw [44] (fun t44 wr => ∃ j : Nat, j ≤ len ∧ t44 = .int .i64 j ∧ Hid (∃ xs : List Nat, xs.length = 80 ∧ OwnR wr B (.slice (some ⟨g, 0, none⟩) 80 cb) xs) ∧ Hid (OnlyAt g w1 wr)) (fun t44 _ => len - (intOf t44).toNat)
  case atStart => exact ⟨0, by omega, rfl, ⟨_, hle.out, HO0.out⟩, OnlyAt.refl⟩
  case round =>
    obtain ⟨j, hj, rfl, ⟨xs, hxl, hO⟩, hbr⟩ := hrel
    have HO := Lib.hid hO
    have HXL := Lib.hid hxl
    have hzr := hbr.out.size
    have HBr : Hid (Below b0 w wr) := hbr.out.below HB.out (by rw [HB0.out]; exact Nat.le_refl _) (by omega)
    clear hO hxl
    by_cases hlt : j < len
    · obtain ⟨bA, oA, rfl, hbA, hcj⟩ := (HA.out.below (by rw [← HB0.out]; exact HBr.out) : IntsA wr A len T) j hlt
      clear HA HO0 HMm0 HMr0
      obtain ⟨i, hi, hil⟩ := u64_place (T j) 80 (by decide) (by decide)
      have hi : wrap64 ((IntKind.u64.wrap (T j)).tmod 80) = (i : Int) := hi
      obtain ⟨Tj, hTj⟩ : ∃ t, t = T j := ⟨_, rfl⟩
      rw [← hTj] at hi hcj
      clear hTj
      by_cases h4 : j < 4
      · obtain ⟨g', c', e, -, hgl2, -, cl, fz⟩ := HO.out.head (by have := HXL.out; omega)
        simp only [Value.slice.injEq, Option.some.injEq, Addr.mk.injEq] at e
        obtain ⟨⟨rfl, -, -⟩, -, -⟩ := e
        have hci := cl i (by have := HXL.out; omega)
        have hel := byt_getD HO.out.1 i
        obtain ⟨ei, hei⟩ : ∃ e, xs.getD i 0 = e := ⟨_, rfl⟩
        rw [hei] at hci hel
        have hxr := u8_xor_nat ei z hel hz
        have hex : ei ^^^ z < 256 := Nat.xor_lt_two_pow (n := 8) hel hz
        have ii : (i : Int) < 80 := by omega
        have ji : (j : Int) < 4 := by omega
        clear cl hei
        go_wp2_with fail
        go_roundw
        case rel => exact ⟨j + 1, by omega, by go_num, ⟨xs.set i (ei ^^^ z), by rw [List.length_set]; exact HXL.out, HO.out.store i (ei ^^^ z) hex⟩, by show OnlyAt _ _ _; exact hbr.out.setCell i _⟩
        case measure => first | (simp [intOf]; done) | (simp [intOf]; omega)
      · have ji : ¬ (j : Int) < 4 := by omega
        clear hi
        go_wp2_with fail
        go_roundw
        case rel => exact ⟨j + 1, by omega, by go_num, ⟨xs, HXL.out, HO.out⟩, hbr⟩
        case measure => first | (simp [intOf]; done) | (simp [intOf]; omega)
    · have hjl : j = len := by omega
      subst hjl
      obtain ⟨g', c', e, -, hgl2, -, cl, fz⟩ := HO.out.head (by have := HXL.out; omega)
      simp only [Value.slice.injEq, Option.some.injEq, Addr.mk.injEq] at e
      obtain ⟨⟨rfl, -, -⟩, -, -⟩ := e
      replace HB := HBr
      clear hbr HA HO0 HBr hle
      have HR76 : Hid (RdB wr (.slice (some ⟨g, 0, none⟩) 76 cb) (xs.take 76)) := RdB.cutL (by rw [HXL.out]; exact HO.out.rd) 76 cb (by rw [HXL.out]; omega) (by omega)
      have c76 : (76 : Int) ≤ (cb : Int) := by omega
      obtain ⟨C, hC⟩ : ∃ C, crc (xs.take 76) = C := ⟨_, rfl⟩
      have hCl : C < 4294967296 := by rw [← hC]; exact crc_lt _
      have HCC := Lib.hid hC
      clear hC
      go_wp2_with fail
      refine Calls.mono (sumB_x _ (xs.take 76) C _ HCC.out HR76.out (by rw [List.length_take]; omega)) ?_; rintro e w5 ⟨rfl, hb5⟩
      replace HO := Lib.hid (HO.out.keep hb5)
      have z5 := hb5.size
      replace HB := Lib.hid (HB.out.trans (hb5.mono (by omega)))
      clear hb5 HR76 cl fz
      have HF76 : FullB w5 (.slice (some ⟨g, 0, none⟩) 76 76) (xs.take 76) := full76 HO.out HXL.out
      have hby : Byt [(C / 16777216), (C / 65536 % 256), (C / 256 % 256), (C % 256)] := by intro c hc; simp only [List.mem_cons, List.not_mem_nil, or_false] at hc; rcases hc with rfl | rfl | rfl | rfl <;> omega
      obtain ⟨v6, w6, hr6, ho6, hb6⟩ := append_full (w := w5.alloc (Obj.cells #[.int .u8 (((C / 16777216) : Nat) : Int), .int .u8 (((C / 65536 % 256) : Nat) : Int), .int .u8 (((C / 256 % 256) : Nat) : Int), .int .u8 (((C % 256) : Nat) : Int)] 5)) (HF76.keep ((Below.refl _ _).alloc (Nat.le_refl _) _)) (by rw [List.length_take]; omega) ⟨w5.heap.size, 0, none⟩ 4 [(C / 16777216), (C / 65536 % 256), (C / 256 % 256), (C % 256)] hby (by simp) (by simp) (new4 _ _ _ _ _ _ _ rfl)
      have hb6' : Below w5.heap.size w5 w6 := ((Below.refl _ _).alloc (Nat.le_refl _) _).trans (hb6.mono (by simp))
      have l6 : (xs.take 76 ++ [(C / 16777216), (C / 65536 % 256), (C / 256 % 256), (C % 256)]).length = 80 := by rw [List.length_append, List.length_take, HXL.out]; rfl
      have ho6 : OwnR w6 w5.heap.size v6 (xs.take 76 ++ [(C / 16777216), (C / 65536 % 256), (C / 256 % 256), (C % 256)]) := ho6.mono (by simp)
      obtain ⟨g6, c6, rfl, hBg6, hgl6, hc6, -, -⟩ := ho6.head (by omega)
      rw [l6] at ho6 hr6 hc6
      obtain ⟨X6, hX6⟩ : ∃ X, X = xs.take 76 ++ [(C / 16777216), (C / 65536 % 256), (C / 256 % 256), (C % 256)] := ⟨_, rfl⟩
      rw [← hX6] at ho6 l6
      have ek0 : (((C / 16777216) : Nat) : Int) = (C : Int) / 16777216 := by omega
      have ek1 : (((C / 65536 % 256) : Nat) : Int) = (C : Int) / 65536 % 256 := by omega
      have ek2 : (((C / 256 % 256) : Nat) : Int) = (C : Int) / 256 % 256 := by omega
      have ek3 : (((C % 256) : Nat) : Int) = (C : Int) % 256 := by omega
      rw [ek0, ek1, ek2, ek3] at hr6
      clear ek0 ek1 ek2 ek3
      have HO6 := Lib.hid ho6
      have HR6 := Lib.hid hr6
      have z6 := hb6'.size
      replace HB := Lib.hid (HB.out.trans (hb6'.mono (by omega)))
      clear hb6 hb6' ho6 hr6 hX6 HF76 hby HO
      have L6 := Lib.hid l6
      clear l6
      go_upto_region 13 with fail
      go_cut [15] from 62 (fun s15 wc => s15 = .slice (some ⟨g6, 0, none⟩) 80 c6 ∧ wc = w6)
      case first =>
        clear HMm0 HMr0 HO6 L6
        go_wp2_with (at_builtin; refine wpList_append_run rfl _ _ 30 rfl HR6.out rfl rfl ?_)
        go_meet
        exact ⟨rfl, rfl⟩
      case rest =>
        obtain ⟨rfl, hw6⟩ := hcut
        rw [hw6]
        clear hw6 HR6 hCl HCC
        obtain ⟨n8, hn8⟩ : ∃ n : Nat, (80 : Int) - (c : Int) = (n : Int) := ⟨80 - c, by omega⟩
        have hn8l : n8 ≤ 80 := by omega
        have hc := HC.out
        have HMm : Hid (BytA w6 (.slice am nm cm) ys) := HMm0.out.below (by rw [← HB0.out]; exact HB.out)
        obtain ⟨v8, w8, hr8, ho8, hb8⟩ := append_any (HO6.out.cutS n8 hn8l) HMm.out (by omega) (by rw [List.length_take]; omega) (by rw [HNM.out]; omega)
        replace HB := Lib.hid (HB.out.trans (hb8.mono (by omega)))
        have z8 := hb8.size
        have HMr : Hid (BytA w8 (.slice ar nr cr) rs) := HMr0.out.below (by rw [← HB0.out]; exact HB.out)
        have HR8 := Lib.hid hr8
        have HBy := Lib.hid ho8.rd
        obtain ⟨X8, hX8⟩ : ∃ X, X = List.take n8 X6 ++ ys := ⟨_, rfl⟩
        rw [← hX8] at HBy
        obtain ⟨a8, c8, hv8⟩ := HBy.out.form
        obtain ⟨n9, hn9⟩ : ∃ n, X8.length = n := ⟨_, rfl⟩
        rw [hn9] at hv8
        rw [hv8] at HR8 HBy
        have n8c : (n8 : Int) ≤ (c6 : Int) := by omega
        clear hr8 ho8 hv8 hX8 hn9 hb8 HMm HMm0
        obtain ⟨⟨FA, nA⟩, hdA⟩ : ∃ z', decE X8 = z' := ⟨_, rfl⟩
        obtain ⟨⟨FB, nB⟩, hdB⟩ : ∃ z', decE rs = z' := ⟨_, rfl⟩
        have HDA := Lib.hid hdA
        have HDB := Lib.hid hdB
        clear hdA hdB
        have i0 : ∀ w' : World, Sem.run Try.prog (Instr.index 41 (.agg #[.slice a8 n9 c8, .slice ar nr cr]) (.int .i64 0)) w' = .ok (.slice a8 n9 c8) w' := fun w' => rfl
        have i1 : ∀ w' : World, Sem.run Try.prog (Instr.index 41 (.agg #[.slice a8 n9 c8, .slice ar nr cr]) (.int .i64 1)) w' = .ok (.slice ar nr cr) w' := fun w' => rfl
        go_wp2_with (at_builtin; refine wpList_append_run rfl _ _ 30 rfl HR8.out rfl rfl ?_)
        go_loopw [95] (fun t95 wr => ∃ j : Nat, j ≤ 2 ∧ t95 = .int .i64 j ∧ Hid (Below w8.heap.size w8 wr)) (fun t95 _ => 2 - (intOf t95).toNat)
        case atStart => exact ⟨0, by omega, rfl, Below.refl _ _⟩
        case round =>
          obtain ⟨j, hj, rfl, hbr⟩ := hrel
          have hzr := hbr.out.size
          rcases j with _ | _ | _ | j
          · have q5 : ∀ w' : World, Sem.run Try.prog (binOp .neq 29 (.agg #[.int .i64 FA.kind, .int .i64 FA.src, .int .i64 FA.boot, .int .i64 FA.seq, .int .i64 FA.stamp, .int .i64 FA.dst, .int .i64 FA.t1, .int .i64 FA.t2, .int .i64 FA.who, .int .i64 FA.when, .int .i64 FA.x, .int .i64 FA.y, .int .i64 FA.a, .int .i64 FA.b, .int .i64 FA.d]) (.agg #[.int .i64 FA.kind, .int .i64 FA.src, .int .i64 FA.boot, .int .i64 FA.seq, .int .i64 FA.stamp, .int .i64 FA.dst, .int .i64 FA.t1, .int .i64 FA.t2, .int .i64 FA.who, .int .i64 FA.when, .int .i64 FA.x, .int .i64 FA.y, .int .i64 FA.a, .int .i64 FA.b, .int .i64 FA.d])) w' = .ok (.bool false) w' := fun w' => by rw [neq_fr]; simp
            have q6 : ∀ (p q : Operand) (w' : World), Sem.run Try.prog (eqGuard .neq 29 p q (.agg #[.int .i64 FA.kind, .int .i64 FA.src, .int .i64 FA.boot, .int .i64 FA.seq, .int .i64 FA.stamp, .int .i64 FA.dst, .int .i64 FA.t1, .int .i64 FA.t2, .int .i64 FA.who, .int .i64 FA.when, .int .i64 FA.x, .int .i64 FA.y, .int .i64 FA.a, .int .i64 FA.b, .int .i64 FA.d]) (.agg #[.int .i64 FA.kind, .int .i64 FA.src, .int .i64 FA.boot, .int .i64 FA.seq, .int .i64 FA.stamp, .int .i64 FA.dst, .int .i64 FA.t1, .int .i64 FA.t2, .int .i64 FA.who, .int .i64 FA.when, .int .i64 FA.x, .int .i64 FA.y, .int .i64 FA.a, .int .i64 FA.b, .int .i64 FA.d])) w' = .ok () w' := fun p q w' => eqg_fr .neq p q FA FA w'
            go_wp2_with fail
            refine Calls.mono (decode_v _ _ FA nA HDA.out _ (HBy.out.below hbr.out)) ?_; rintro e x2 ⟨rfl, hb2⟩
            have HX := Lib.hid (hbr.out.trans (hb2.mono hbr.out.size))
            have z2 := hb2.size
            clear hb2
            go_wp2_with fail
            refine name_calls ?_; intro u3 hu3
            have BP : Hid (Blk u3 x2.heap.size #[.int .i64 FA.kind, .int .i64 FA.src, .int .i64 FA.boot, .int .i64 FA.seq, .int .i64 FA.stamp, .int .i64 FA.dst, .int .i64 FA.t1, .int .i64 FA.t2, .int .i64 FA.who, .int .i64 FA.when, .int .i64 FA.x, .int .i64 FA.y, .int .i64 FA.a, .int .i64 FA.b, .int .i64 FA.d] 29) := by rw [hu3]; exact Blk.new _ _ _
            have hbA : Below x2.heap.size x2 u3 := by rw [hu3]; exact (Below.refl _ _).alloc (Nat.le_refl _) _
            have HX3 := Lib.hid (HX.out.trans (hbA.mono (by omega)))
            have l3 := BP.out.lt
            clear hu3 hbA
            refine Calls.mono (rdecode_v _ _ FA nA HDA.out _ (HBy.out.below HX3.out)) ?_; rintro e x4 ⟨rfl, hb4⟩
            have HX4 := Lib.hid (HX3.out.trans (hb4.mono (by omega)))
            replace BP := Lib.hid (BP.out.keep hb4)
            have z4 := hb4.size
            clear hb4
            have rp := BP.out.row?_all 15 rfl
            have lp := BP.out.lt
            go_wp2_with fail
            go_roundw
            case rel => (first | exact ⟨1, by omega, rfl, by show Below _ _ _; exact HX4.out.alloc (by omega) _⟩ | ((repeat apply Exists.intro); exact ⟨⟨1, by omega, rfl, by show Below _ _ _; exact HX4.out.alloc (by omega) _⟩, rfl⟩))
            case measure => first | (simp [intOf]; done) | (simp [intOf]; omega)
          · have q5 : ∀ w' : World, Sem.run Try.prog (binOp .neq 29 (.agg #[.int .i64 FB.kind, .int .i64 FB.src, .int .i64 FB.boot, .int .i64 FB.seq, .int .i64 FB.stamp, .int .i64 FB.dst, .int .i64 FB.t1, .int .i64 FB.t2, .int .i64 FB.who, .int .i64 FB.when, .int .i64 FB.x, .int .i64 FB.y, .int .i64 FB.a, .int .i64 FB.b, .int .i64 FB.d]) (.agg #[.int .i64 FB.kind, .int .i64 FB.src, .int .i64 FB.boot, .int .i64 FB.seq, .int .i64 FB.stamp, .int .i64 FB.dst, .int .i64 FB.t1, .int .i64 FB.t2, .int .i64 FB.who, .int .i64 FB.when, .int .i64 FB.x, .int .i64 FB.y, .int .i64 FB.a, .int .i64 FB.b, .int .i64 FB.d])) w' = .ok (.bool false) w' := fun w' => by rw [neq_fr]; simp
            have q6 : ∀ (p q : Operand) (w' : World), Sem.run Try.prog (eqGuard .neq 29 p q (.agg #[.int .i64 FB.kind, .int .i64 FB.src, .int .i64 FB.boot, .int .i64 FB.seq, .int .i64 FB.stamp, .int .i64 FB.dst, .int .i64 FB.t1, .int .i64 FB.t2, .int .i64 FB.who, .int .i64 FB.when, .int .i64 FB.x, .int .i64 FB.y, .int .i64 FB.a, .int .i64 FB.b, .int .i64 FB.d]) (.agg #[.int .i64 FB.kind, .int .i64 FB.src, .int .i64 FB.boot, .int .i64 FB.seq, .int .i64 FB.stamp, .int .i64 FB.dst, .int .i64 FB.t1, .int .i64 FB.t2, .int .i64 FB.who, .int .i64 FB.when, .int .i64 FB.x, .int .i64 FB.y, .int .i64 FB.a, .int .i64 FB.b, .int .i64 FB.d])) w' = .ok () w' := fun p q w' => eqg_fr .neq p q FB FB w'
            go_wp2_with fail
            refine Calls.mono (decode_v _ _ FB nB HDB.out _ (HMr.out.1.below hbr.out)) ?_; rintro e x2 ⟨rfl, hb2⟩
            have HX := Lib.hid (hbr.out.trans (hb2.mono hbr.out.size))
            have z2 := hb2.size
            clear hb2
            go_wp2_with fail
            refine name_calls ?_; intro u3 hu3
            have BP : Hid (Blk u3 x2.heap.size #[.int .i64 FB.kind, .int .i64 FB.src, .int .i64 FB.boot, .int .i64 FB.seq, .int .i64 FB.stamp, .int .i64 FB.dst, .int .i64 FB.t1, .int .i64 FB.t2, .int .i64 FB.who, .int .i64 FB.when, .int .i64 FB.x, .int .i64 FB.y, .int .i64 FB.a, .int .i64 FB.b, .int .i64 FB.d] 29) := by rw [hu3]; exact Blk.new _ _ _
            have hbA : Below x2.heap.size x2 u3 := by rw [hu3]; exact (Below.refl _ _).alloc (Nat.le_refl _) _
            have HX3 := Lib.hid (HX.out.trans (hbA.mono (by omega)))
            have l3 := BP.out.lt
            clear hu3 hbA
            refine Calls.mono (rdecode_v _ _ FB nB HDB.out _ (HMr.out.1.below HX3.out)) ?_; rintro e x4 ⟨rfl, hb4⟩
            have HX4 := Lib.hid (HX3.out.trans (hb4.mono (by omega)))
            replace BP := Lib.hid (BP.out.keep hb4)
            have z4 := hb4.size
            clear hb4
            have rp := BP.out.row?_all 15 rfl
            have lp := BP.out.lt
            go_wp2_with fail
            go_roundw
            case rel => (first | exact ⟨2, by omega, rfl, by show Below _ _ _; exact HX4.out.alloc (by omega) _⟩ | ((repeat apply Exists.intro); exact ⟨⟨2, by omega, rfl, by show Below _ _ _; exact HX4.out.alloc (by omega) _⟩, rfl⟩))
            case measure => first | (simp [intOf]; done) | (simp [intOf]; omega)
          · go_wp2_with fail
            refine Calls.mono (awake_c _) ?_; rintro e x5 ⟨rfl, hb5⟩
            go_wp2_with fail
            go_ret
            exact ⟨rfl, by rw [← HB0.out]; exact HB.out.trans ((hbr.out.trans (hb5.mono hbr.out.size)).mono (by omega))⟩
          · exfalso; omega
theorem frameDecodes_c (k s bo sq st ds ta tb wh wn x y a b d : Int) (A : Option Addr) (len cap : Nat) (T : Nat → Int) (z : Int) (rt : Bool) (vm : Value) (ys : List Nat) (ct : Int) (vr : Value) (rs : List Nat) (hz : 0 ≤ z ∧ z < 256) (w : World) (hA : IntsA w A len T) (hlen : len ≤ 9223372036854775807) (hm : BytA w vm ys) (hr : BytA w vr rs) :
    Calls Try.prog 4 #[frC k s bo sq st ds ta tb wh wn x y a b d, .slice A len cap, .int .u8 z, .bool rt, vm, .int .i64 ct, vr] w fun e w' => e = .returned (.bool true) ∧ Below w.heap.size w w' := by
  obtain ⟨z, rfl⟩ : ∃ n : Nat, z = (n : Int) := ⟨z.toNat, by omega⟩
  have hz : z < 256 := by omega
  by_cases h1 : 300 < rs.length
  · exact frameDecodes_l1 _ _ _ _ _ _ _ _ _ _ _ _ _ _ _ _ _ _ _ _ _ _ _ _ _ _ hz _ hA hlen hm hr h1
  by_cases h2 : 100 < ys.length
  · exact frameDecodes_l2 _ _ _ _ _ _ _ _ _ _ _ _ _ _ _ _ _ _ _ _ _ _ _ _ _ _ hz _ hA hlen hm hr (by omega) h2
  cases hmay : mayF ⟨k, s, bo, sq, st, ds, ta, tb, wh, wn, x, y, a, b, d⟩ with
  | false => exact frameDecodes_n _ _ _ _ _ _ _ _ _ _ _ _ _ _ _ _ _ _ _ _ _ _ _ _ _ _ hz _ hA hlen hm hr (by omega) (by omega) hmay
  | true =>
    cases rt with
    | false => exact frameDecodes_r _ _ _ _ _ _ _ _ _ _ _ _ _ _ _ _ _ _ _ _ _ _ _ _ _ hz _ hA hlen hm hr (by omega) (by omega) hmay
    | true => exact frameDecodes_s _ _ _ _ _ _ _ _ _ _ _ _ _ _ _ _ _ _ _ _ _ _ _ _ _ hz _ hA hlen hm hr (by omega) (by omega) hmay
end Go.Proofs.Ytdipecepgfaokaa
