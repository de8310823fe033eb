/- The walk of the document's Encode. -/
import Derived.Test.YtdipecepgfaokaaN7b
import Derived.Test.YtdipecepgfaokaaN6g
import Derived.Test.YtdipecepgfaokaaN14
namespace Go.Proofs.Ytdipecepgfaokaa
set_option linter.unusedSimpArgs false
set_option linter.unusedVariables false
open Go.RowKit

theorem putR_h (B : Nat) (v : Value) (xs : List Nat) (n : Int) (wd : Nat) (hw : wd ≤ 8) (w : World) (h : Hid (OwnB w B v xs)) (hB : B ≤ w.heap.size) (hx : xs.length ≤ 1000000) :
    Calls Try.prog 18 #[v, .int .u64 (IntKind.u64.wrap n), .int .i64 (wd : Int)] w fun e w' => (∃ v', e = .returned v' ∧ Hid (OwnB w' B v' (xs ++ be wd n))) ∧ Below B w w' := by
  have e : IntKind.u64.wrap n = n % 18446744073709551616 := by simp [IntKind.wrap, IntKind.signed, IntKind.bits]
  rw [e]
  have := putB_r B v xs (n % 18446744073709551616) wd hw ⟨Int.emod_nonneg _ (by decide), Int.emod_lt_of_pos _ (by decide)⟩ w h hB hx
  rw [be_mod n wd hw] at this
  exact this
set_option maxRecDepth 100000 in
set_option maxHeartbeats 1000000 in
theorem putB_o (B : Nat) (v : Value) (xs : List Nat) (n : Int) (wd : Nat) (hw : wd ≤ 8) (hp : 0 < wd) (hn : 0 ≤ n ∧ n < 18446744073709551616) (w : World) (h : OwnB w B v xs) (hB : B ≤ w.heap.size) (hx : xs.length ≤ 1000000) :
    Calls Try.prog 18 #[v, .int .u64 n, .int .i64 (wd : Int)] w fun e w' => (∃ v', e = .returned v' ∧ OwnR w' B v' (xs ++ be wd n)) ∧ Below B w w' := by
  obtain ⟨i0, hi, hz0, hz1, hz2⟩ := info_parts infoU8
  have H := Lib.hid h
  clear h
  go_enter Try.func18, Try.ntmps18
  go_wp2_with fail
  go_loopw [0, 7] (fun t0 t7 wr => ∃ d : Nat, d ≤ wd ∧ t7 = .int .i64 ((d : Int) - 1) ∧ Hid (OwnB wr B t0 (xs ++ (be wd n).take (wd - d))) ∧ Hid (d < wd → OwnR wr B t0 (xs ++ (be wd n).take (wd - d))) ∧ Hid (Below B w wr)) (fun _ t7 _ => (intOf t7 + 1).toNat)
  case atStart => exact ⟨wd, by omega, by go_num, by rw [Nat.sub_self, List.take_zero, List.append_nil]; exact H, fun h => absurd h (Nat.lt_irrefl _), Below.refl _ _⟩
  case round =>
    obtain ⟨d, hd, rfl, hown, hown2, hb⟩ := hrel
    by_cases hlt : 0 < d
    · obtain ⟨d, rfl⟩ : ∃ d', d = d' + 1 := ⟨d - 1, by omega⟩
      have hT := be_take n wd d hd
      obtain ⟨c, hc⟩ : ∃ c, ((n / ((256 ^ d : Nat) : Int)) % 256).toNat = c := ⟨_, rfl⟩
      have hcl : c < 256 := by omega
      have hci : n / 2 ^ (8 * d) % 256 = (c : Int) := by rw [pow_byte]; omega
      rw [hc] at hT
      clear hc
      obtain ⟨v', w1, hr, hO, hb2⟩ := append_bytes (hown.out.alloc (Obj.cells #[.int .u8 (c : Int)] 5)) (by have := hb.out.size; simp; omega) (by rw [List.length_append, List.length_take]; omega) ⟨wr.heap.size, 0, none⟩ 1 [c] (by intro z hz; simp at hz; omega) (by simp) (by simp) (new1b wr c _)
      have hrh := Lib.hid hr
      clear hr
      go_wp2_with (first
        | (at_builtin; refine wpList_append_run rfl _ _ 30 rfl hrh.out rfl rfl ?_)
        | go_in)
      have HO : Hid (OwnB w1 B v' (xs ++ (be wd n).take (wd - d))) := by show OwnB _ _ _ _; rw [hT, ← List.append_assoc]; exact .inl hO
      have HO2 : Hid (d < wd → OwnR w1 B v' (xs ++ (be wd n).take (wd - d))) := fun _ => by rw [hT, ← List.append_assoc]; exact hO
      have hb2 : Hid (Below B w w1) := (hb.out.alloc (Nat.le_trans hB hb.out.size) _).trans hb2
      clear hrh hO hown hown2 hb
      go_wp2_with fail
      go_roundw
      case rel => exact ⟨d, by omega, by go_num, HO, HO2, hb2⟩
      case measure => first | (simp [intOf]; done) | (simp [intOf]; omega)
    · have h8 : d = 0 := by omega
      subst h8
      go_wp2_with fail
      go_ret
      exact ⟨⟨_, rfl, by have := hown2.out hp; rw [Nat.sub_zero, List.take_of_length_le (by rw [be_length]; exact Nat.le_refl _)] at this; exact this⟩, hb.out⟩
theorem putR_n (B : Nat) (v : Value) (xs : List Nat) (n : Nat) (wd : Nat) (hw : wd ≤ 8) (hp : 0 < wd) (hn : n < 18446744073709551616) (w : World) (h : Hid (OwnB w B v xs)) (hB : B ≤ w.heap.size) (hx : xs.length ≤ 1000000) :
    Calls Try.prog 18 #[v, .int .u64 (n : Int), .int .i64 (wd : Int)] w fun e w' => (∃ v', e = .returned v' ∧ Hid (OwnR w' B v' (xs ++ be wd n))) ∧ Below B w w' := putB_o B v xs n wd hw hp (by omega) w h hB hx
theorem new4 (w : World) (a b c d : Nat) (t : TypeId) (n : Nat) (hn : w.heap.size = n) : ∀ (j : Nat) (u : Value), ([a, b, c, d].map fun (c : Nat) => Value.int .u8 (c : Int))[j]? = some u → (w.alloc (Obj.cells #[.int .u8 (a : Int), .int .u8 (b : Int), .int .u8 (c : Int), .int .u8 (d : Int)] t)).cell? ((⟨n, 0, none⟩ : Addr).add j) = some u := by
  subst hn
  intro j u hj
  rw [Addr.add_lit, Nat.zero_add, (Blk.new w #[.int .u8 (a : Int), .int .u8 (b : Int), .int .u8 (c : Int), .int .u8 (d : Int)] t).at]
  rcases j with _ | _ | _ | _ | j
  · exact hj
  · exact hj
  · exact hj
  · exact hj
  · simp at hj
set_option maxRecDepth 100000 in
set_option maxHeartbeats 4000000 in
theorem rencode_no (f : FrD) (hm : mayF f = false) (w : World) :
    Calls Try.prog 9 #[frV f] w fun e w' => e = .returned (.tuple #[.slice none 0 0, .int .i64 1]) ∧ Below w.heap.size w w' := by
  obtain ⟨k, s, bo, sq, st, ds, ta, tb, wh, wn, x, y, a, b, d⟩ := f
  go_enter Try.func9, Try.ntmps9
  go_wp2_with fail
  refine Calls.mono (rframemay_v ⟨k, s, bo, sq, st, ds, ta, tb, wh, wn, x, y, a, b, d⟩ _ hm _) ?_; rintro e w1 ⟨rfl, hb1⟩; have z_w1 := hb1.size; (try simp at z_w1); obtain ⟨y_w1_0_0, c_w1_0_0, f_w1_0_0, r_w1_0_0, t_w1_0_0, p_w1_0_0⟩ := bk hb1 (w.heap.size) (by first | omega | (simp; done) | (simp; omega) | fail)
  go_wp2_with fail
  go_ret2
  exact ⟨rfl, (by repeat (first | with_reducible exact Below.refl _ _ | with_reducible exact Below_of_hid (by assumption) | with_reducible refine Below.drew ?_ | with_reducible refine below_drewN ?_ _ | (with_reducible refine Below_putRow ?_ ?hB _ _; case hB => (first | omega | (simp; done) | (simp; omega))) | (with_reducible refine Below.alloc ?_ ?hB _; case hB => (first | omega | (simp; done) | (simp; omega))) | (with_reducible refine Below.setCell ?_ ?hB _; case hB => (first | omega | (simp; done) | (simp; omega))) | (with_reducible refine Below.trans ?_ (Below.mono (by assumption) ?hB); case hB => (first | omega | (simp; done) | (simp; omega)))))⟩
set_option maxRecDepth 100000 in
set_option maxHeartbeats 16000000 in
theorem rencode_t (k s bo sq st ds ta tb wh wn x y a b d : Int) (hm : mayF ⟨k, s, bo, sq, st, ds, ta, tb, wh, wn, x, y, a, b, d⟩ = true) (w : World) :
    Calls Try.prog 9 #[frC k s bo sq st ds ta tb wh wn x y a b d] w fun e w' => (∃ v, e = .returned (.tuple #[v, .int .i64 0]) ∧ OwnR w' (w.heap.size + 1) v (encL ⟨k, s, bo, sq, st, ds, ta, tb, wh, wn, x, y, a, b, d⟩)) ∧ Below w.heap.size w w' := by
  go_enter Try.func9, Try.ntmps9
  go_wp2_with fail
  refine name_calls ?_; intro u0 hu0
  obtain ⟨b0, hb0⟩ : ∃ b0, b0 = w.heap.size := ⟨_, rfl⟩
  have HB : Hid (Below b0 w u0) := by rw [hu0, hb0]; show Below w.heap.size w _; exact (by repeat (first | with_reducible exact Below.refl _ _ | with_reducible exact Below_of_hid (by assumption) | with_reducible refine Below.drew ?_ | with_reducible refine below_drewN ?_ _ | (with_reducible refine Below_putRow ?_ ?hB _ _; case hB => (first | omega | (simp; done) | (simp; omega))) | (with_reducible refine Below.alloc ?_ ?hB _; case hB => (first | omega | (simp; done) | (simp; omega))) | (with_reducible refine Below.setCell ?_ ?hB _; case hB => (first | omega | (simp; done) | (simp; omega))) | (with_reducible refine Below.trans ?_ (Below.mono (by assumption) ?hB); case hB => (first | omega | (simp; done) | (simp; omega)))))
  have B0 : Hid (Blk u0 b0 #[.int .i64 k, .int .i64 s, .int .i64 bo, .int .i64 sq, .int .i64 st, .int .i64 ds, .int .i64 ta, .int .i64 tb, .int .i64 wh, .int .i64 wn, .int .i64 x, .int .i64 y, .int .i64 a, .int .i64 b, .int .i64 d] 29) := by rw [hu0, hb0]; exact Blk.new _ _ _
  rw [← hb0]
  have HB0 := Lib.hid hb0
  clear hu0 hb0
  refine Calls.mono (rframemay_v ⟨k, s, bo, sq, st, ds, ta, tb, wh, wn, x, y, a, b, d⟩ _ hm _) ?_; rintro e w1 ⟨rfl, hb⟩
  have hb := Lib.hid hb
  replace HB := Lib.hid (HB.out.trans (hb.out.mono (Nat.le_trans (Nat.le_of_lt B0.out.lt) (Nat.le_refl _))))
  replace B0 := Lib.hid (B0.out.keep hb.out)
  obtain ⟨wA, hwA⟩ : ∃ wA, wA = w1 := ⟨_, rfl⟩
  rw [← hwA] at HB B0 ⊢
  clear hwA hb
  have l0 := B0.out.lt
  have q0 : wA.cell? ⟨b0, 0, none⟩ = some (.int .i64 k) := B0.out.cell rfl
  have q1 : wA.cell? ⟨b0, 1, none⟩ = some (.int .i64 s) := B0.out.cell rfl
  have q5 : wA.cell? ⟨b0, 5, none⟩ = some (.int .i64 ds) := B0.out.cell rfl
  have q8 : wA.cell? ⟨b0, 8, none⟩ = some (.int .i64 wh) := B0.out.cell rfl
  have hcv := cv_bytes wA #[.int .u8 97, .int .u8 108, .int .u8 105, .int .u8 49] 4 4
  obtain ⟨kb, hkb⟩ : ∃ z : Nat, (k % 256).toNat = z := ⟨_, rfl⟩
  obtain ⟨sb, hsb⟩ : ∃ z : Nat, (s % 256).toNat = z := ⟨_, rfl⟩
  obtain ⟨db, hdb⟩ : ∃ z : Nat, (ds % 256).toNat = z := ⟨_, rfl⟩
  obtain ⟨wb, hwb⟩ : ∃ z : Nat, (wh % 256).toNat = z := ⟨_, rfl⟩
  have zk : IntKind.u8.wrap k = (kb : Int) := by rw [IntKind.wrap_u8']; omega
  have zs : IntKind.u8.wrap s = (sb : Int) := by rw [IntKind.wrap_u8']; omega
  have zd : IntKind.u8.wrap ds = (db : Int) := by rw [IntKind.wrap_u8']; omega
  have zw : IntKind.u8.wrap wh = (wb : Int) := by rw [IntKind.wrap_u8']; omega
  have yk : k % 256 = (kb : Int) := by omega
  have ys : s % 256 = (sb : Int) := by omega
  have yd : ds % 256 = (db : Int) := by omega
  have yw : wh % 256 = (wb : Int) := by omega
  have hfl : Hid (fl 1 [k, s, ds, wh] 4 = [kb, sb, db, wb]) := by show _ = _; rw [show fl 1 [k, s, ds, wh] 4 = be 1 k ++ (be 1 s ++ (be 1 ds ++ be 1 wh)) from by unfold fl; simp, be1, be1, be1, be1, hkb, hsb, hdb, hwb]; rfl
  have hown := OwnB.lit (w := wA) (b0 + 1) [97, 108, 105, 49] (by intro c hc; simp at hc; omega) (4, 5)
  have hby : Byt [kb, sb, db, wb] := by intro c hc; simp only [List.mem_cons, List.not_mem_nil, or_false] at hc; omega
  obtain ⟨v', w2, hr, hO1, hbr⟩ := append_bytes (hown.alloc (Obj.cells #[.int .u8 (kb : Int), .int .u8 (sb : Int), .int .u8 (db : Int), .int .u8 (wb : Int)] 5)) (by simp; omega) (by simp) ⟨wA.heap.size + 1, 0, none⟩ 4 [kb, sb, db, wb] hby (by simp) (by simp) (new4 _ _ _ _ _ _ _ (by simp))
  have hB1 : Below (b0 + 1) wA w2 := (((Below.refl _ _).alloc (by omega) _).alloc (by simp; omega) _).trans hbr
  have HR := Lib.hid hr
  clear hr hkb hsb hdb hwb hbr hown
  go_wp2_with (at_builtin; refine wpList_append_run rfl _ _ 30 rfl HR.out rfl rfl ?_)
  have hO2 : Hid (OwnB w2 (b0 + 1) v' ([97, 108, 105, 49] ++ fl 1 [k, s, ds, wh] 4)) := by show OwnB _ _ _ _; rw [hfl.out]; exact .inl hO1
  replace HB := Lib.hid (HB.out.trans (hB1.mono (Nat.le_succ _)))
  replace B0 := Lib.hid (B0.out.below hB1 (Nat.lt_succ_self _))
  obtain ⟨P1, hP1⟩ : ∃ P, P = [97, 108, 105, 49] ++ fl 1 [k, s, ds, wh] 4 := ⟨_, rfl⟩
  have lP1 : P1.length = 8 := by rw [hP1, hfl.out]; rfl
  have HP1 := Lib.hid hP1
  rw [← hP1] at hO2
  have hO := hO2
  clear hP1 hB1 hO1 HR hcv hby zk zs zd zw yk ys yd yw hfl hO2 l0 q0 q1 q5 q8
  obtain ⟨wz1, hwz⟩ : ∃ wz, wz = w2 := ⟨_, rfl⟩
  rw [← hwz] at hO HB B0 ⊢
  clear hwz
  have l0 := B0.out.lt
  have q2 : wz1.cell? ⟨b0, 2, none⟩ = some (.int .i64 bo) := B0.out.cell rfl
  have q3 : wz1.cell? ⟨b0, 3, none⟩ = some (.int .i64 sq) := B0.out.cell rfl
  go_wp2_with fail
  go_cut [4] from 28 (fun s4 wc => Hid (OwnB wc (b0 + 1) s4 (P1 ++ be 2 bo ++ be 2 sq)) ∧ Hid (Below (b0 + 1) wz1 wc))
  case first =>
    go_region_held3 (fun w' => w'.cell? ⟨b0, 2, none⟩ = some (.int .i64 bo) ∧ w'.cell? ⟨b0, 3, none⟩ = some (.int .i64 sq)) (go_simp)
      (first
        | (go_at_call 18; refine Calls.mono (putR_h (b0 + 1) _ P1 _ 2 (by decide) _ (by repeat (first | with_reducible assumption | with_reducible refine ownH_drew ?_ | with_reducible refine ownH_drewN ?_)) (by first | omega | (simp; done) | (simp; omega) | fail) (by simp only [List.length_append, be_length, lP1]; decide)) ?_; rintro e w2 ⟨⟨v', rfl, hO2⟩, hb2⟩; have hz2 : wz1.heap.size ≤ w2.heap.size := hb2.size; have hc2 : ∀ o, w2.cell? ⟨b0, o, none⟩ = wz1.cell? ⟨b0, o, none⟩ := fun o => hb2.cell (p := ⟨b0, o, none⟩) (Nat.lt_succ_self b0))
        | (go_at_call 18; refine Calls.mono (putR_h (b0 + 1) _ (P1 ++ be 2 bo) _ 2 (by decide) _ (by repeat (first | with_reducible assumption | with_reducible refine ownH_drew ?_ | with_reducible refine ownH_drewN ?_)) (by first | omega | (simp; done) | (simp; omega) | fail) (by simp only [List.length_append, be_length, lP1]; decide)) ?_; rintro e w3 ⟨⟨v', rfl, hO3⟩, hb3⟩; have hz3 : w2.heap.size ≤ w3.heap.size := hb3.size; have hc3 : ∀ o, w3.cell? ⟨b0, o, none⟩ = w2.cell? ⟨b0, o, none⟩ := fun o => hb3.cell (p := ⟨b0, o, none⟩) (Nat.lt_succ_self b0)))
    go_wp2_with fail
    go_meet
    exact ⟨hO3, (below_undrew hb2).trans hb3⟩
  case rest =>
    obtain ⟨hO2, hBr⟩ := hcut
    obtain ⟨P2, hP2⟩ : ∃ P, P = P1 ++ be 2 bo ++ be 2 sq := ⟨_, rfl⟩
    have lP2 : P2.length = 12 := by rw [hP2]; simp only [List.length_append, be_length, lP1]
    have HP2 := Lib.hid hP2
    rw [← hP2] at hO2
    replace HB := Lib.hid (HB.out.trans (hBr.out.mono (Nat.le_succ _)))
    replace B0 := Lib.hid (B0.out.below hBr.out (Nat.lt_succ_self _))
    clear hP2 hBr hO
    clear l0 q2 q3
    obtain ⟨wz2, hwz⟩ : ∃ wz, wz = wc := ⟨_, rfl⟩
    rw [← hwz] at hO2 HB B0 ⊢
    clear hwz
    have l0 := B0.out.lt
    have q4 : wz2.cell? ⟨b0, 4, none⟩ = some (.int .i64 st) := B0.out.cell rfl
    have q6 : wz2.cell? ⟨b0, 6, none⟩ = some (.int .i64 ta) := B0.out.cell rfl
    have q7 : wz2.cell? ⟨b0, 7, none⟩ = some (.int .i64 tb) := B0.out.cell rfl
    have q9 : wz2.cell? ⟨b0, 9, none⟩ = some (.int .i64 wn) := B0.out.cell rfl
    go_wp2_with fail
    go_loopw [4, 46] (fun t4 t46 wr => ∃ j : Nat, j ≤ 4 ∧ t46 = .int .i64 j ∧ Hid (OwnB wr (b0 + 1) t4 (P2 ++ fl 8 [st, ta, tb, wn] j)) ∧ Hid (Below (b0 + 1) wz2 wr)) (fun _ t46 _ => 4 - (intOf t46).toNat)
    case atStart => exact ⟨0, by omega, rfl, by rw [show ∀ x : List Nat, x ++ fl 8 [st, ta, tb, wn] 0 = x from fun x => List.append_nil x]; exact hO2, Below.refl _ _⟩
    case round =>
      obtain ⟨j, hj, rfl, hO, hBr⟩ := hrel
      have hlen := fl_len 8 [st, ta, tb, wn] j hj
      have hsz := hBr.out.size
      by_cases hlt : j < 4
      · have hS := fl_succ 8 [st, ta, tb, wn] j hlt
        have i0 := fun w => (ix4l st ta tb wn w).1
        have i1 := fun w => (ix4l st ta tb wn w).2.1
        have i2 := fun w => (ix4l st ta tb wn w).2.2.1
        have i3 := fun w => (ix4l st ta tb wn w).2.2.2
        rcases j with _ | _ | _ | _ | j
        all_goals first | (exfalso; omega) | skip
        all_goals go_wp2_with fail
        all_goals (refine Calls.mono (putR_h (b0 + 1) _ _ _ 8 (by decide) _ hO (by omega) (by rw [List.length_append, hlen]; simp; omega)) ?_; rintro e w2 ⟨⟨v', rfl, hO2⟩, hb2⟩)
        all_goals replace hBr := Lib.hid (hBr.out.trans hb2)
        all_goals simp only [List.getD_cons_zero, List.getD_cons_succ] at hS
        all_goals rw [List.append_assoc, ← hS] at hO2
        all_goals clear hb2 hO
        all_goals go_wp2_with fail
        all_goals go_roundw
        all_goals first | (refine ⟨_, ?_, ?_, hO2, hBr⟩ <;> first | omega | go_num) | ((repeat apply Exists.intro); refine ⟨⟨_, ?_, ?_, hO2, hBr⟩, rfl⟩ <;> first | omega | go_num) | (simp [intOf]; done)
      · have h4 : j = 4 := by omega
        subst h4
        obtain ⟨P3, hP3⟩ : ∃ P, P = P2 ++ fl 8 [st, ta, tb, wn] 4 := ⟨_, rfl⟩
        have lP3 : P3.length = 44 := by rw [hP3, List.length_append, hlen]; simp only [List.length_append, be_length, lP2]
        have HP3 := Lib.hid hP3
        rw [← hP3] at hO
        replace HB := Lib.hid (HB.out.trans (hBr.out.mono (Nat.le_succ _)))
        replace B0 := Lib.hid (B0.out.below hBr.out (Nat.lt_succ_self _))
        obtain ⟨wz3, hwz⟩ : ∃ wz, wz = wr := ⟨_, rfl⟩
        rw [← hwz] at hO HB B0 ⊢
        clear hwz hBr hP3 hlen hj hlt hsz
        clear l0 q4 q6 q7 q9 hO2
        have l0 := B0.out.lt
        have q10 : wz3.cell? ⟨b0, 10, none⟩ = some (.int .i64 x) := B0.out.cell rfl
        have q11 : wz3.cell? ⟨b0, 11, none⟩ = some (.int .i64 y) := B0.out.cell rfl
        go_wp2_with fail
        go_cut [4] from 54 (fun s4 wc => Hid (OwnB wc (b0 + 1) s4 (P3 ++ be 4 x ++ be 4 y)) ∧ Hid (Below (b0 + 1) wz3 wc))
        case first =>
          go_region_held3 (fun w' => w'.cell? ⟨b0, 10, none⟩ = some (.int .i64 x) ∧ w'.cell? ⟨b0, 11, none⟩ = some (.int .i64 y)) (go_simp)
            (first
              | (go_at_call 18; refine Calls.mono (putR_h (b0 + 1) _ P3 _ 4 (by decide) _ (by repeat (first | with_reducible assumption | with_reducible refine ownH_drew ?_ | with_reducible refine ownH_drewN ?_)) (by first | omega | (simp; done) | (simp; omega) | fail) (by simp only [List.length_append, be_length, lP3]; decide)) ?_; rintro e w2 ⟨⟨v', rfl, hO2⟩, hb2⟩; have hz2 : wz3.heap.size ≤ w2.heap.size := hb2.size; have hc2 : ∀ o, w2.cell? ⟨b0, o, none⟩ = wz3.cell? ⟨b0, o, none⟩ := fun o => hb2.cell (p := ⟨b0, o, none⟩) (Nat.lt_succ_self b0))
              | (go_at_call 18; refine Calls.mono (putR_h (b0 + 1) _ (P3 ++ be 4 x) _ 4 (by decide) _ (by repeat (first | with_reducible assumption | with_reducible refine ownH_drew ?_ | with_reducible refine ownH_drewN ?_)) (by first | omega | (simp; done) | (simp; omega) | fail) (by simp only [List.length_append, be_length, lP3]; decide)) ?_; rintro e w3 ⟨⟨v', rfl, hO3⟩, hb3⟩; have hz3 : w2.heap.size ≤ w3.heap.size := hb3.size; have hc3 : ∀ o, w3.cell? ⟨b0, o, none⟩ = w2.cell? ⟨b0, o, none⟩ := fun o => hb3.cell (p := ⟨b0, o, none⟩) (Nat.lt_succ_self b0)))
          go_wp2_with fail
          go_meet
          exact ⟨hO3, (below_undrew hb2).trans hb3⟩
        case rest =>
          obtain ⟨hO2, hBr⟩ := hcut
          obtain ⟨P4, hP4⟩ : ∃ P, P = P3 ++ be 4 x ++ be 4 y := ⟨_, rfl⟩
          have lP4 : P4.length = 52 := by rw [hP4]; simp only [List.length_append, be_length, lP3]
          have HP4 := Lib.hid hP4
          rw [← hP4] at hO2
          replace HB := Lib.hid (HB.out.trans (hBr.out.mono (Nat.le_succ _)))
          replace B0 := Lib.hid (B0.out.below hBr.out (Nat.lt_succ_self _))
          clear hP4 hBr hO
          clear l0 q10 q11
          obtain ⟨wz4, hwz⟩ : ∃ wz, wz = wc := ⟨_, rfl⟩
          rw [← hwz] at hO2 HB B0 ⊢
          clear hwz
          have l0 := B0.out.lt
          have q12 : wz4.cell? ⟨b0, 12, none⟩ = some (.int .i64 a) := B0.out.cell rfl
          have q13 : wz4.cell? ⟨b0, 13, none⟩ = some (.int .i64 b) := B0.out.cell rfl
          have q14 : wz4.cell? ⟨b0, 14, none⟩ = some (.int .i64 d) := B0.out.cell rfl
          go_wp2_with fail
          go_loopw [4, 80] (fun t4 t80 wr => ∃ j : Nat, j ≤ 3 ∧ t80 = .int .i64 j ∧ Hid (OwnB wr (b0 + 1) t4 (P4 ++ fl 8 [a, b, d] j)) ∧ Hid (Below (b0 + 1) wz4 wr)) (fun _ t80 _ => 3 - (intOf t80).toNat)
          case atStart => exact ⟨0, by omega, rfl, by rw [show ∀ x : List Nat, x ++ fl 8 [a, b, d] 0 = x from fun x => List.append_nil x]; exact hO2, Below.refl _ _⟩
          case round =>
            obtain ⟨j, hj, rfl, hO, hBr⟩ := hrel
            have hlen := fl_len 8 [a, b, d] j hj
            have hsz := hBr.out.size
            by_cases hlt : j < 3
            · have hS := fl_succ 8 [a, b, d] j hlt
              have i0 := fun w => (ix3l a b d w).1
              have i1 := fun w => (ix3l a b d w).2.1
              have i2 := fun w => (ix3l a b d w).2.2
              rcases j with _ | _ | _ | j
              all_goals first | (exfalso; omega) | skip
              all_goals go_wp2_with fail
              all_goals (refine Calls.mono (putR_h (b0 + 1) _ _ _ 8 (by decide) _ hO (by omega) (by rw [List.length_append, hlen]; simp; omega)) ?_; rintro e w2 ⟨⟨v', rfl, hO2⟩, hb2⟩)
              all_goals replace hBr := Lib.hid (hBr.out.trans hb2)
              all_goals simp only [List.getD_cons_zero, List.getD_cons_succ] at hS
              all_goals rw [List.append_assoc, ← hS] at hO2
              all_goals clear hb2 hO
              all_goals go_wp2_with fail
              all_goals go_roundw
              all_goals first | (refine ⟨_, ?_, ?_, hO2, hBr⟩ <;> first | omega | go_num) | ((repeat apply Exists.intro); refine ⟨⟨_, ?_, ?_, hO2, hBr⟩, rfl⟩ <;> first | omega | go_num) | (simp [intOf]; done)
            · have h4 : j = 3 := by omega
              subst h4
              obtain ⟨P5, hP5⟩ : ∃ P, P = P4 ++ fl 8 [a, b, d] 3 := ⟨_, rfl⟩
              have lP5 : P5.length = 76 := by rw [hP5, List.length_append, hlen]; simp only [List.length_append, be_length, lP4]
              have HP5 := Lib.hid hP5
              rw [← hP5] at hO
              replace HB := Lib.hid (HB.out.trans (hBr.out.mono (Nat.le_succ _)))
              replace B0 := Lib.hid (B0.out.below hBr.out (Nat.lt_succ_self _))
              obtain ⟨wz5, hwz⟩ : ∃ wz, wz = wr := ⟨_, rfl⟩
              rw [← hwz] at hO HB B0 ⊢
              clear hwz hBr hP5 hlen hj hlt hsz
              clear l0 q12 q13 q14 hO2
              have HP : Hid (bodyL ⟨k, s, bo, sq, st, ds, ta, tb, wh, wn, x, y, a, b, d⟩ = P5) := by show _ = _; rw [HP5.out, HP4.out, HP3.out, HP2.out, HP1.out]; rfl
              have EV : Hid (encL ⟨k, s, bo, sq, st, ds, ta, tb, wh, wn, x, y, a, b, d⟩ = P5 ++ be 4 (crc P5)) := by show _ = _; unfold encL; rw [HP.out]
              have l0 := B0.out.lt
              go_wp2_with fail
              refine Calls.mono (sumB_r _ _ _ hO.out.rd (by omega)) ?_; rintro e w2 ⟨rfl, hb2⟩
              have hO3 := Lib.hid (hO.out.keep hb2)
              have hz := hb2.size
              replace HB := Lib.hid (HB.out.trans (hb2.mono (by omega)))
              clear hb2 hO
              have hcl := crc_lt P5
              go_wp2_with fail
              refine Calls.mono (putR_n (b0 + 1) _ _ _ 4 (by decide) (by decide) (by omega) _ hO3 (by omega) (by omega)) ?_; rintro e w3 ⟨⟨v', rfl, hO4⟩, hb3⟩
              go_wp2_with fail
              go_ret2
              refine ⟨⟨_, rfl, ?_⟩, ?_⟩
              · rw [EV.out, ← HB0.out]; exact hO4.out
              · rw [← HB0.out]; exact HB.out.trans (hb3.mono (Nat.le_succ _))
theorem rencode_x (f : FrD) (hm : mayF f = true) (w : World) :
    Calls Try.prog 9 #[frV f] w fun e w' => (∃ ao cap, e = .returned (.tuple #[.slice ao 80 cap, .int .i64 0]) ∧ OwnR w' w.heap.size (.slice ao 80 cap) (encL f)) ∧ Below w.heap.size w w' := by
  refine Calls.mono (rencode_t f.kind f.src f.boot f.seq f.stamp f.dst f.t1 f.t2 f.who f.when f.x f.y f.a f.b f.d hm w) ?_
  rintro e w' ⟨⟨v, rfl, ho⟩, hb⟩
  obtain ⟨ao, cap, rfl⟩ := ho.rd.form
  rw [enc_len] at ho ⊢
  exact ⟨⟨ao, cap, rfl, ho.mono (Nat.le_succ _)⟩, hb⟩
end Go.Proofs.Ytdipecepgfaokaa
