/- The walk of InfoApart. -/
import Derived.Test.YtjfphfnfbgmlfaaIC
import Derived.BigRegion
namespace Go.Proofs.Ytjfphfnfbgmlfaa
open Go.RowKit

theorem rad_30 (e : El) (ha : e.a ≤ 1073741824) (hd : e.d ≤ 1073741824) : 0 ≤ e.rad ∧ e.rad ≤ 46341 := by
  have h1 : e.tr ≤ 2147483648 := by unfold El.tr; split <;> omega
  have := up_le e.tr.toNat 46341 (by omega)
  unfold El.rad; omega
theorem rad_move (x y x' y' a b d : Int) (h : El.may ⟨x, y, a, b, d⟩ = true) (h' : El.may ⟨x', y', a, b, d⟩ = true) : El.rad ⟨x, y, a, b, d⟩ = El.rad ⟨x', y', a, b, d⟩ := by
  unfold El.rad El.tr; rw [if_pos h, if_pos h']
theorem may_move (x y x' y' a b d : Int) (h : El.may ⟨x, y, a, b, d⟩ = true) (hp : mayPt x' y' = true) : El.may ⟨x', y', a, b, d⟩ = true := by
  have m := (El.may_iff _).1 h
  exact (El.may_iff _).2 ⟨(mayPt_iff _ _).1 hp, m.2.1, m.2.2⟩
theorem apart_cases (m m' : Bool) (a d a' d' : Int) : m = false ∨ (m = true ∧ m' = false) ∨ (m = true ∧ m' = true ∧ 1073741824 < a) ∨ (m = true ∧ m' = true ∧ ¬ 1073741824 < a ∧ 1073741824 < d) ∨
    (m = true ∧ m' = true ∧ ¬ 1073741824 < a ∧ ¬ 1073741824 < d ∧ 1073741824 < a') ∨ (m = true ∧ m' = true ∧ ¬ 1073741824 < a ∧ ¬ 1073741824 < d ∧ ¬ 1073741824 < a' ∧ 1073741824 < d') ∨
    (m = true ∧ m' = true ∧ ¬ 1073741824 < a ∧ ¬ 1073741824 < d ∧ ¬ 1073741824 < a' ∧ ¬ 1073741824 < d') := by
  cases m <;> cases m' <;> simp <;> omega
theorem ellrad_v (x y a b d r : Int) (h : El.rad ⟨x, y, a, b, d⟩ = r) (w : World) :
    Calls Try.prog 16 #[elC x y a b d] w fun e w' => e = .returned (.int .i64 r) ∧ Below w.heap.size w w' := by
  subst h; exact ellrad_c x y a b d w
theorem blk_facts {w : World} {b : Nat} {c : Array Value} {t : TypeId} (h : Blk w b c t) :
    b < w.heap.size ∧ (∀ o, w.cell? ⟨b, o, none⟩ = c[o]?) ∧ (∀ o, w.frozen? ⟨b, o, none⟩ = false) ∧ (∀ n, w.fits b n = decide (n ≤ c.size)) ∧ (∀ o cs, o + cs.size ≤ c.size → ones cs = true → w.put? b o cs = some (w.putRow b o cs)) ∧ w.row? b 0 c.size = some c :=
  ⟨h.lt, h.at, h.frozen, fun n => by unfold World.fits; unfold Blk at h; rw [h]; rfl, fun o cs h1 h2 => h.put? o cs h1 h2, h.row?_all _ rfl⟩
set_option maxRecDepth 100000 in
set_option maxHeartbeats 8000000 in
theorem infoApart_c (x y a b d x' y' a' b' d' n : Int) (w : World) :
    Calls Try.prog 4 #[elC x y a b d, elC x' y' a' b' d', .int .i64 n] w fun e w' => e = .returned (.bool true) ∧ Below w.heap.size w w' := by
  obtain ⟨m, hm⟩ : ∃ m, El.may ⟨x, y, a, b, d⟩ = m := ⟨_, rfl⟩
  obtain ⟨m', hm'⟩ : ∃ m, El.may ⟨x', y', a', b', d'⟩ = m := ⟨_, rfl⟩
  have HM := Lib.hid hm
  have HM' := Lib.hid hm'
  rcases apart_cases m m' a d a' d' with rfl | ⟨rfl, rfl⟩ | ⟨rfl, rfl, g1⟩ | ⟨rfl, rfl, g1, g2⟩ | ⟨rfl, rfl, g1, g2, g3⟩ | ⟨rfl, rfl, g1, g2, g3, g4⟩ | ⟨rfl, rfl, g1, g2, g3, g4⟩
  case inl =>
    clear hm hm'
    go_enter Try.func4, Try.ntmps4
    go_wp2_with fail
    refine (ellmay_v _ _ _ _ _ _ HM.out _).mono ?_; rintro e w1 ⟨rfl, hb1⟩; have z_w1 := hb1.size; (try simp at z_w1); obtain ⟨y_w1_0_0, c_w1_0_0, f_w1_0_0, r_w1_0_0, t_w1_0_0, p_w1_0_0⟩ := bk hb1 (w.heap.size) (by first | omega | (simp; done) | (simp; omega) | fail); obtain ⟨y_w1_0_1, c_w1_0_1, f_w1_0_1, r_w1_0_1, t_w1_0_1, p_w1_0_1⟩ := bk hb1 (w.heap.size + 1) (by first | omega | (simp; done) | (simp; omega) | fail)
    go_wp2_with fail
    refine (awake6_c _).mono ?_; rintro e w5 ⟨rfl, hb5⟩
    go_wp2
    go_ret
    exact ⟨rfl, (by repeat (first | with_reducible exact Below.refl _ _ | with_reducible exact Below_of_hid (by assumption) | with_reducible refine Below.drew ?_ | with_reducible refine below_drewN ?_ _ | (with_reducible refine Below_putRow ?_ ?hB _ _; case hB => (first | omega | (simp; done) | (simp; omega))) | (with_reducible refine Below.alloc ?_ ?hB _; case hB => (first | omega | (simp; done) | (simp; omega))) | (with_reducible refine Below.setCell ?_ ?hB _; case hB => (first | omega | (simp; done) | (simp; omega))) | (with_reducible refine Below.trans ?_ (Below.mono (by assumption) ?hB); case hB => (first | omega | (simp; done) | (simp; omega)))))⟩
  case inr.inr.inr.inr.inr.inr =>
    obtain ⟨R1, hR1⟩ : ∃ r, El.rad ⟨0, 0, a, b, d⟩ = r := ⟨_, rfl⟩
    obtain ⟨R2, hR2⟩ : ∃ r, El.rad ⟨x', y', a', b', d'⟩ = r := ⟨_, rfl⟩
    obtain ⟨V, hV⟩ : ∃ K, wrap64 ((IntKind.u64.wrap n).tmod 1000) = K := ⟨_, rfl⟩
    have V0 : 0 ≤ V ∧ V < 1000 := by rw [← hV]; exact rem_range n 1000 (by decide) (by decide)
    have k1 := rad_30 ⟨0, 0, a, b, d⟩ (by show a ≤ _; omega) (by show d ≤ _; omega)
    have k2 := rad_30 ⟨x', y', a', b', d'⟩ (by show a' ≤ _; omega) (by show d' ≤ _; omega)
    rw [hR1] at k1; rw [hR2] at k2
    have h0 : El.may ⟨0, 0, a, b, d⟩ = true := may_move _ _ 0 0 _ _ _ hm (by decide)
    have h1 : El.may ⟨4 * (R1 + R2) + V, 0, a', b', d'⟩ = true := may_move _ _ _ _ _ _ _ hm' ((mayPt_iff _ _).2 (by omega))
    have hA := fuse_apart ⟨0, 0, a, b, d⟩ ⟨4 * (R1 + R2) + V, 0, a', b', d'⟩ h0 h1 rfl (by rw [hR1, rad_move _ _ x' y' _ _ _ h1 hm', hR2]; show 4 * (R1 + R2) ≤ 4 * (R1 + R2) + V; omega)
    obtain ⟨D, hD⟩ : ∃ D, 4 * (R1 + R2) + V = D := ⟨_, rfl⟩
    rw [hD] at hA
    have HA := Lib.hid hA
    have HR1 := Lib.hid hR1
    have HR2 := Lib.hid hR2
    obtain ⟨V1, V2⟩ := V0
    obtain ⟨k11, k12⟩ := k1
    obtain ⟨k21, k22⟩ := k2
    clear hm hm' h0 h1 hA hR1 hR2
    go_enter Try.func4, Try.ntmps4
    go_wp2_with fail
    refine (ellmay_v _ _ _ _ _ _ HM.out _).mono ?_; rintro e w1 ⟨rfl, hb1⟩; have z_w1 := hb1.size; (try simp at z_w1); obtain ⟨y_w1_0_0, c_w1_0_0, f_w1_0_0, r_w1_0_0, t_w1_0_0, p_w1_0_0⟩ := bk hb1 (w.heap.size) (by first | omega | (simp; done) | (simp; omega) | fail); obtain ⟨y_w1_0_1, c_w1_0_1, f_w1_0_1, r_w1_0_1, t_w1_0_1, p_w1_0_1⟩ := bk hb1 (w.heap.size + 1) (by first | omega | (simp; done) | (simp; omega) | fail)
    go_wp2_with fail
    refine (ellmay_v _ _ _ _ _ _ HM'.out _).mono ?_; rintro e w2 ⟨rfl, hb2⟩; have z_w2 := hb2.size; (try simp at z_w2); obtain ⟨y_w2_0_0, c_w2_0_0, f_w2_0_0, r_w2_0_0, t_w2_0_0, p_w2_0_0⟩ := bk hb2 (w.heap.size) (by first | omega | (simp; done) | (simp; omega) | fail); obtain ⟨y_w2_0_1, c_w2_0_1, f_w2_0_1, r_w2_0_1, t_w2_0_1, p_w2_0_1⟩ := bk hb2 (w.heap.size + 1) (by first | omega | (simp; done) | (simp; omega) | fail)
    go_wp2_with fail
    obtain ⟨w3, hw3⟩ : ∃ w3, w3 = (w2.setCell ⟨w.heap.size, 0, none⟩ (.int .i64 0)).setCell ⟨w.heap.size, 1, none⟩ (.int .i64 0) := ⟨_, rfl⟩
    rw [← hw3]
    have BE : Hid (Blk w2 w.heap.size #[.int .i64 x, .int .i64 y, .int .i64 a, .int .i64 b, .int .i64 d] 27) := (((Blk.new _ _ _).alloc _).keep hb1).keep hb2
    have BF : Hid (Blk w2 (w.heap.size + 1) #[.int .i64 x', .int .i64 y', .int .i64 a', .int .i64 b', .int .i64 d'] 27) := ((Blk.new' _ _ _ (by simp)).keep hb1).keep hb2
    have BE3 : Hid (Blk w3 w.heap.size #[.int .i64 0, .int .i64 0, .int .i64 a, .int .i64 b, .int .i64 d] 27) := by rw [hw3]; exact ((BE.out.setCell_same 0 _).setCell_same 1 _)
    have BF3 : Hid (Blk w3 (w.heap.size + 1) #[.int .i64 x', .int .i64 y', .int .i64 a', .int .i64 b', .int .i64 d'] 27) := by rw [hw3]; exact ((BF.out.setCell_other (by simp) _).setCell_other (by simp) _)
    have HB3 : Hid (Below w.heap.size w w3) := by rw [hw3]; exact (show Below _ _ _ from (by repeat (first | with_reducible exact Below.refl _ _ | with_reducible exact Below_of_hid (by assumption) | with_reducible refine Below.drew ?_ | with_reducible refine below_drewN ?_ _ | (with_reducible refine Below_putRow ?_ ?hB _ _; case hB => (first | omega | (simp; done) | (simp; omega))) | (with_reducible refine Below.alloc ?_ ?hB _; case hB => (first | omega | (simp; done) | (simp; omega))) | (with_reducible refine Below.setCell ?_ ?hB _; case hB => (first | omega | (simp; done) | (simp; omega))) | (with_reducible refine Below.trans ?_ (Below.mono (by assumption) ?hB); case hB => (first | omega | (simp; done) | (simp; omega))))))
    clear hw3 BE BF hb1 hb2
    clear z_w1 y_w1_0_0 c_w1_0_0 f_w1_0_0 r_w1_0_0 t_w1_0_0 p_w1_0_0 y_w1_0_1 c_w1_0_1 f_w1_0_1 r_w1_0_1 t_w1_0_1 p_w1_0_1
    clear z_w2 y_w2_0_0 c_w2_0_0 f_w2_0_0 r_w2_0_0 t_w2_0_0 p_w2_0_0 y_w2_0_1 c_w2_0_1 f_w2_0_1 r_w2_0_1 t_w2_0_1 p_w2_0_1
    go_cut [] from 46 (fun wc => Hid (Blk wc w.heap.size #[.int .i64 0, .int .i64 0, .int .i64 a, .int .i64 b, .int .i64 d] 27) ∧ Hid (Blk wc (w.heap.size + 1) #[.int .i64 D, .int .i64 0, .int .i64 a', .int .i64 b', .int .i64 d'] 27) ∧ Hid (Below w.heap.size w wc))
    case first =>
      have c0 := @inw_cell _ _ _ (BE3.out.cell (i := 0) rfl)
      have c1 := @inw_cell _ _ _ (BE3.out.cell (i := 1) rfl)
      have c2 := @inw_cell _ _ _ (BE3.out.cell (i := 2) rfl)
      have c3 := @inw_cell _ _ _ (BE3.out.cell (i := 3) rfl)
      have c4 := @inw_cell _ _ _ (BE3.out.cell (i := 4) rfl)
      have d0 := @inw_cell _ _ _ (BF3.out.cell (i := 0) rfl)
      have d1 := @inw_cell _ _ _ (BF3.out.cell (i := 1) rfl)
      have d2 := @inw_cell _ _ _ (BF3.out.cell (i := 2) rfl)
      have d3 := @inw_cell _ _ _ (BF3.out.cell (i := 3) rfl)
      have d4 := @inw_cell _ _ _ (BF3.out.cell (i := 4) rfl)
      refine wp_region_fresh' 13 (fun _ => none) (fun _ => []) (by kernel_rfl) (by kernel_rfl) ?_; refine ex_list ?_; apply Exists.intro; refine ex_list ?_; apply Exists.intro; refine ex_list ?_; apply Exists.intro; refine ex_list ?_; apply Exists.intro; refine ex_list ?_; apply Exists.intro; refine ex_list ?_; apply Exists.intro; refine ex_list ?_; apply Exists.intro; refine ex_list ?_; apply Exists.intro; refine ex_list ?_; apply Exists.intro; refine ex_list ?_; apply Exists.intro; refine ex_list ?_; apply Exists.intro; refine ex_list ?_; apply Exists.intro; refine ex_list ?_; apply Exists.intro; refine ⟨[], fun gg NN hN => ?_⟩; simp only [List.take_succ_cons, List.take_zero, List.drop_succ_cons, List.drop_zero]; (repeat (refine lexF_quiet rfl ?_; go_big_quiet_step (first | exact rfl | ((go_at_call 16; exact calls_in (ellrad_v _ _ _ _ _ _ (by first | with_reducible exact HR1.out | with_reducible exact HR2.out) _)))); refine wpQuiet_nil ⟨rfl, ?_⟩))
      refine lexF_nil ?_
      intro w4 hb4' hh _
      have hb4 : Below w3.heap.size w3 w4 := hb4'
      clear hh hb4' c0 c1 c2 c3 c4 d0 d1 d2 d3 d4
      have BE4 := Lib.hid (BE3.out.keep hb4)
      have BF4 := Lib.hid (BF3.out.keep hb4)
      have HB4 := Lib.hid (HB3.out.trans (hb4.mono HB3.out.size))
      obtain ⟨y1, c1, f1, -, -, r1⟩ := blk_facts BF4.out
      go_wp2_with fail
      go_meet
      refine ⟨?_, ?_, ?_⟩
      · exact (BE4.out.setCell_other (by simp) _).setCell_other (by simp) _
      · exact (BF4.out.setCell_same 0 _).setCell_same 1 _
      · have hb := HB4.out
        exact (show Below _ _ _ from (by repeat (first | with_reducible exact Below.refl _ _ | with_reducible exact Below_of_hid (by assumption) | with_reducible refine Below.drew ?_ | with_reducible refine below_drewN ?_ _ | (with_reducible refine Below_putRow ?_ ?hB _ _; case hB => (first | omega | (simp; done) | (simp; omega))) | (with_reducible refine Below.alloc ?_ ?hB _; case hB => (first | omega | (simp; done) | (simp; omega))) | (with_reducible refine Below.setCell ?_ ?hB _; case hB => (first | omega | (simp; done) | (simp; omega))) | (with_reducible refine Below.trans ?_ (Below.mono (by assumption) ?hB); case hB => (first | omega | (simp; done) | (simp; omega))))))
    case rest =>
      obtain ⟨BE, BF, HB⟩ := hcut
      clear BE3 BF3 HB3
      go_wp2_with fail
      go_loopw [7, 8] (fun t7 t8 wr => ∃ (k : Nat) (q : Bool), 1 ≤ k ∧ k ≤ 34 ∧ t8 = .int .i64 k ∧ t7 = .bool q ∧ (17 < k → q = true) ∧ Hid (Below wc.heap.size wc wr)) (fun _ i _ => 34 - (intOf i).toNat)
      case atStart => exact ⟨1, false, by omega, by omega, rfl, rfl, by omega, Below.refl _ _⟩
      case round =>
        obtain ⟨k, q, hk1, hk2, rfl, rfl, hq, HB5⟩ := hrel
        by_cases hlt : k < 34
        · obtain ⟨⟨ox, oy, oa, ob, od⟩, r, ho⟩ : ∃ o r, fuseE ⟨0, 0, a, b, d⟩ ⟨D, 0, a', b', d'⟩ k = (o, r) := ⟨_, _, rfl⟩
          have hr : k = 17 → r = 3 := by rintro rfl; have := HA.out; rw [show ((17 : Nat) : Int) = 17 from rfl] at ho; rw [ho] at this; exact this
          have HO := Lib.hid ho
          have k1 : (k : Int) < 34 := by omega
          have k2 : (0 : Int) ≤ k := by omega
          have hb5 := HB5.out
          have s5 := hb5.size
          obtain ⟨y1, c1, f1, -, -, r1⟩ := blk_facts (BE.out.keep hb5)
          obtain ⟨y2, c2, f2, -, -, r2⟩ := blk_facts (BF.out.keep hb5)
          clear ho
          cases q with
          | true =>
            go_wp2_with fail
            refine (fuse_v _ _ _ _ _ _ _ _ _ _ _ _ _ _ _ _ _ HO.out _).mono ?_; rintro e w1 ⟨rfl, hb6⟩; have s6 := hb6.size
            go_wp2_with fail
            go_roundw
            case rel => exact ⟨k + 1, true, by omega, by omega, by go_num, rfl, by simp, (show Below _ _ _ from (by repeat (first | with_reducible exact Below.refl _ _ | with_reducible exact Below_of_hid (by assumption) | with_reducible refine Below.drew ?_ | with_reducible refine below_drewN ?_ _ | (with_reducible refine Below_putRow ?_ ?hB _ _; case hB => (first | omega | (simp; done) | (simp; omega))) | (with_reducible refine Below.alloc ?_ ?hB _; case hB => (first | omega | (simp; done) | (simp; omega))) | (with_reducible refine Below.setCell ?_ ?hB _; case hB => (first | omega | (simp; done) | (simp; omega))) | (with_reducible refine Below.trans ?_ (Below.mono (by assumption) ?hB); case hB => (first | omega | (simp; done) | (simp; omega))))))⟩
            case measure => simp [intOf]; omega
          | false =>
            have k17 : ¬ 17 < k := fun h => by have := hq h; cases this
            go_wp2_with fail
            refine (fuse_v _ _ _ _ _ _ _ _ _ _ _ _ _ _ _ _ _ HO.out _).mono ?_; rintro e w1 ⟨rfl, hb6⟩; have s6 := hb6.size
            go_wp2_with fail
            go_roundw
            case rel => exact ⟨k + 1, r == 3, by omega, by omega, by go_num, rfl, by intro h; have := hr (by omega); simp [this], (show Below _ _ _ from (by repeat (first | with_reducible exact Below.refl _ _ | with_reducible exact Below_of_hid (by assumption) | with_reducible refine Below.drew ?_ | with_reducible refine below_drewN ?_ _ | (with_reducible refine Below_putRow ?_ ?hB _ _; case hB => (first | omega | (simp; done) | (simp; omega))) | (with_reducible refine Below.alloc ?_ ?hB _; case hB => (first | omega | (simp; done) | (simp; omega))) | (with_reducible refine Below.setCell ?_ ?hB _; case hB => (first | omega | (simp; done) | (simp; omega))) | (with_reducible refine Below.trans ?_ (Below.mono (by assumption) ?hB); case hB => (first | omega | (simp; done) | (simp; omega))))))⟩
            case measure => simp [intOf]; omega
        · obtain rfl : k = 34 := by omega
          obtain rfl : q = true := hq (by omega)
          have hb5 := HB5.out
          have s5 := hb5.size
          have hb0 := HB.out
          have s0 := hb0.size
          clear HB5 HB
          go_wp2_with fail
          refine (awake6_c _).mono ?_; rintro e w6 ⟨rfl, hb6⟩
          go_wp2
          go_ret
          exact ⟨rfl, hb0.trans ((hb5.trans (hb6.mono hb5.size)).mono hb0.size)⟩
  all_goals clear hm hm'
  all_goals go_enter Try.func4, Try.ntmps4
  all_goals go_wp2_with fail
  all_goals (refine (ellmay_v _ _ _ _ _ _ HM.out _).mono ?_; rintro e w1 ⟨rfl, hb1⟩; have z_w1 := hb1.size; (try simp at z_w1); obtain ⟨y_w1_0_0, c_w1_0_0, f_w1_0_0, r_w1_0_0, t_w1_0_0, p_w1_0_0⟩ := bk hb1 (w.heap.size) (by first | omega | (simp; done) | (simp; omega) | fail); obtain ⟨y_w1_0_1, c_w1_0_1, f_w1_0_1, r_w1_0_1, t_w1_0_1, p_w1_0_1⟩ := bk hb1 (w.heap.size + 1) (by first | omega | (simp; done) | (simp; omega) | fail))
  all_goals go_wp2_with fail
  all_goals (refine (ellmay_v _ _ _ _ _ _ HM'.out _).mono ?_; rintro e w2 ⟨rfl, hb2⟩; have z_w2 := hb2.size; (try simp at z_w2); obtain ⟨y_w2_0_0, c_w2_0_0, f_w2_0_0, r_w2_0_0, t_w2_0_0, p_w2_0_0⟩ := bk hb2 (w.heap.size) (by first | omega | (simp; done) | (simp; omega) | fail); obtain ⟨y_w2_0_1, c_w2_0_1, f_w2_0_1, r_w2_0_1, t_w2_0_1, p_w2_0_1⟩ := bk hb2 (w.heap.size + 1) (by first | omega | (simp; done) | (simp; omega) | fail))
  all_goals go_wp2_with fail
  all_goals (refine (awake6_c _).mono ?_; rintro e w5 ⟨rfl, hb5⟩)
  all_goals go_wp2
  all_goals go_ret
  all_goals exact ⟨rfl, (by repeat (first | with_reducible exact Below.refl _ _ | with_reducible exact Below_of_hid (by assumption) | with_reducible refine Below.drew ?_ | with_reducible refine below_drewN ?_ _ | (with_reducible refine Below_putRow ?_ ?hB _ _; case hB => (first | omega | (simp; done) | (simp; omega))) | (with_reducible refine Below.alloc ?_ ?hB _; case hB => (first | omega | (simp; done) | (simp; omega))) | (with_reducible refine Below.setCell ?_ ?hB _; case hB => (first | omega | (simp; done) | (simp; omega))) | (with_reducible refine Below.trans ?_ (Below.mono (by assumption) ?hB); case hB => (first | omega | (simp; done) | (simp; omega)))))⟩
end Go.Proofs.Ytjfphfnfbgmlfaa
