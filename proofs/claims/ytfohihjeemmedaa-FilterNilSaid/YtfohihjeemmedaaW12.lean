/- The walk of package wide's divide: the cases of a smaller number, and of one word. -/
import Derived.Test.YtfohihjeemmedaaW11
namespace Go.Proofs.Ytfohihjeemmedaa
open Go.RowKit

@[go_sem] theorem put?_putRow_other {w : World} (g o : Nat) (cs : Array Value) (b o' : Nat) (cs' : Array Value) (h : b ≠ g) (hf : w.fits b (o' + cs'.size) = true) (h1 : ones cs' = true) :
    (w.putRow g o cs).put? b o' cs' = some ((w.putRow g o cs).putRow b o' cs') :=
  put?_fits (by rw [fits_putRow _ _ _ _ _ h]; exact hf) h1
/-- The end of a walk whose two results are rows of cells. -/
theorem bodyPost_row2 {P : Program} {fn : Func} {R : Ending → World → Prop} {a : Act} {w : World} {p u : Tmp} {ty ty' : TypeId} {g g' : Nat} (n n' : Nat) (cs cs' : Array Value) {d d' : TypeDesc}
    (h : fn.results = #[.cell p ty, .cell u ty']) (hde : a.defers = []) (hp : a.tmps.getD p undef = .pointer (some ⟨g, 0, none⟩)) (hp' : a.tmps.getD u undef = .pointer (some ⟨g', 0, none⟩))
    (hu : P.underlying ty = some d) (hd : d.isRow = true) (hi : (P.info? ty).map (·.size) = some n) (hu' : P.underlying ty' = some d') (hd' : d'.isRow = true) (hi' : (P.info? ty').map (·.size) = some n')
    (hg : w.row? g 0 n = some cs) (hg' : w.row? g' 0 n' = some cs') (hR : R (.returned (.tuple #[.agg cs, .agg cs'])) w) :
    bodyPost P fn R .ret a w := by
  refine bodyPost_ret (v := .tuple #[.agg cs, .agg cs']) ?_ hde hR
  have e1 := run_loadVar_row? (P := P) w g 0 n ty cs d hu hd hi hg
  have e2 := run_loadVar_row? (P := P) w g' 0 n' ty' cs' d' hu' hd' hi' hg'
  have hq : a.tmps[p]?.getD undef = .pointer (some ⟨g, 0, none⟩) := by simpa using hp
  have hq' : a.tmps[u]?.getD undef = .pointer (some ⟨g', 0, none⟩) := by simpa using hp'
  simp [results, h, hq, hq', asAddr, e1, e2]

set_option maxRecDepth 100000 in
set_option maxHeartbeats 1000000 in
theorem divide_lt (N M : Nat) (w : World) (hN : N < W16) (hM : M < W16) (hlt : N < M) :
    Calls Try.prog 94 #[.agg (rowW 16 N), .agg (rowW 16 M)] w fun e w' => e = .returned (.tuple #[.agg (rowW 16 (N / M)), .agg (rowW 16 (N % M))]) ∧ Below w.heap.size w w' := by
  have HN := Lib.hid hN
  have HM := Lib.hid hM
  have hc : cmpN N M = -1 := by unfold cmpN; rw [if_pos hlt]
  rw [Nat.div_eq_of_lt hlt, Nat.mod_eq_of_lt hlt]
  clear hN hM hlt
  go_enter Try.func94, Try.ntmps94
  go_wp2_with fail
  refine (cmp_c _ _ _ _ N M _ HN.out HM.out (.of_blk ((((((Blk.new _ _ _).alloc _).alloc _).alloc _).alloc _).alloc _)) (.of_blk (((((Blk.new' _ _ _ (by simp)).alloc _).alloc _).alloc _).alloc _))).mono ?_; rintro e w1 ⟨rfl, hb1⟩; rw [hc]; have z_w1 := hb1.size; (try simp at z_w1); obtain ⟨y_w1_0_0, c_w1_0_0, f_w1_0_0, r_w1_0_0, t_w1_0_0, p_w1_0_0⟩ := bk hb1 (w.heap.size) (by first | omega | (simp; done) | (simp; omega) | fail); obtain ⟨y_w1_0_1, c_w1_0_1, f_w1_0_1, r_w1_0_1, t_w1_0_1, p_w1_0_1⟩ := bk hb1 (w.heap.size + 1) (by first | omega | (simp; done) | (simp; omega) | fail); obtain ⟨y_w1_0_2, c_w1_0_2, f_w1_0_2, r_w1_0_2, t_w1_0_2, p_w1_0_2⟩ := bk hb1 (w.heap.size + 1 + 1) (by first | omega | (simp; done) | (simp; omega) | fail); obtain ⟨y_w1_0_3, c_w1_0_3, f_w1_0_3, r_w1_0_3, t_w1_0_3, p_w1_0_3⟩ := bk hb1 (w.heap.size + 1 + 1 + 1) (by first | omega | (simp; done) | (simp; omega) | fail); obtain ⟨y_w1_0_4, c_w1_0_4, f_w1_0_4, r_w1_0_4, t_w1_0_4, p_w1_0_4⟩ := bk hb1 (w.heap.size + 1 + 1 + 1 + 1) (by first | omega | (simp; done) | (simp; omega) | fail); obtain ⟨y_w1_0_5, c_w1_0_5, f_w1_0_5, r_w1_0_5, t_w1_0_5, p_w1_0_5⟩ := bk hb1 (w.heap.size + 1 + 1 + 1 + 1 + 1) (by first | omega | (simp; done) | (simp; omega) | fail)
  go_wp2_with fail
  go_region
  all_goals go_wp2_with fail
  all_goals exact bodyPost_row2 16 16 (rowW 16 0) (rowW 16 N) rfl rfl rfl rfl Try.underlying66 rfl info_size Try.underlying66 rfl info_size (by go_simp) (by go_simp) ⟨rfl, (by repeat (first | exact Below.refl _ _ | exact Below_of_hid (by assumption) | refine Below.drew ?_ | refine below_drewN ?_ _ | refine Below_putRow ?_ (by first | omega | (simp; done) | (simp; omega) | fail) _ _ | refine Below.alloc ?_ (by first | omega | (simp; done) | (simp; omega) | fail) _ | refine Below.setCell ?_ (by first | omega | (simp; done) | (simp; omega) | fail) _ | refine Below.trans ?_ (Below.mono (by assumption) (by first | omega | (simp; done) | (simp; omega) | fail))))⟩

theorem cmpN_ge {N M : Nat} (h : M ≤ N) : (0 : Int) ≤ cmpN N M := by unfold cmpN; split <;> (try split) <;> omega
theorem Blk.fits {w : World} {b : Nat} {c : Array Value} {t : TypeId} (h : Blk w b c t) (n : Nat) (hn : n ≤ c.size) : w.fits b n = true := by
  unfold World.fits; unfold Blk at h; rw [h]; simp [hn]

set_option maxRecDepth 100000 in
set_option maxHeartbeats 2000000 in
theorem divide_one (N M : Nat) (w : World) (hN : N < W16) (hM : M < W16) (hge : M ≤ N) (hM0 : M ≠ 0) (hM1 : M < 18446744073709551616) :
    Calls Try.prog 94 #[.agg (rowW 16 N), .agg (rowW 16 M)] w fun e w' => e = .returned (.tuple #[.agg (rowW 16 (N / M)), .agg (rowW 16 (N % M))]) ∧ Below w.heap.size w w' := by
  have HN := Lib.hid hN
  have HM := Lib.hid hM
  have hc := cmpN_ge hge
  have hcd : decide (cmpN N M < 0) = false := decide_eq_false (by omega)
  have hn1 : np M = 1 := np_unique M 1 hM1 (.inr (by rw [show 64 * (1 - 1) = 0 from rfl, Nat.pow_zero]; omega))
  obtain ⟨n, hn⟩ : ∃ n, n = np N := ⟨_, rfl⟩
  have hn16 : n ≤ 16 := by rw [hn]; exact (np_le_iff _ _).2 (LtW.of16 hN)
  have HNL : Hid (N < 2 ^ (64 * n)) := by show N < _; rw [hn]; exact np_lt N
  have hb0 : Hid (wdn M 0 = M) := by show wdn M 0 = M; unfold wdn; simpa using hM1
  have HP : Hid (0 < M ∧ M < 18446744073709551616) := ⟨Nat.pos_of_ne_zero hM0, hM1⟩
  have HNE := Lib.hid hn
  clear hN hM hge hM0 hM1 hn
  go_enter Try.func94, Try.ntmps94
  go_wp2_with fail
  refine (cmp_c _ _ _ _ N M _ HN.out HM.out (.of_blk ((((((Blk.new _ _ _).alloc _).alloc _).alloc _).alloc _).alloc _)) (.of_blk (((((Blk.new' _ _ _ (by simp)).alloc _).alloc _).alloc _).alloc _))).mono ?_; rintro e w1 ⟨rfl, hb1⟩
  have Q0 : Hid (Blk w1 w.heap.size (rowW 16 N) 66) := Blk.keep ((((((Blk.new _ _ _).alloc _).alloc _).alloc _).alloc _).alloc _) hb1
  have Q1 : Hid (Blk w1 (w.heap.size + 1) (rowW 16 M) 66) := Blk.keep (((((Blk.new' _ _ _ (by simp)).alloc _).alloc _).alloc _).alloc _) hb1
  have Q2 : Hid (Blk w1 (w.heap.size + 1 + 1) (rowW 16 0) 66) := Blk.keep ((((Blk.new' _ _ _ (by simp)).alloc _).alloc _).alloc _) hb1
  have Q3 : Hid (Blk w1 (w.heap.size + 1 + 1 + 1) (rowW 16 0) 66) := Blk.keep (((Blk.new' _ _ _ (by simp)).alloc _).alloc _) hb1
  have Q4 : Hid (Blk w1 (w.heap.size + 1 + 1 + 1 + 1) (rowW 16 0) 66) := Blk.keep ((Blk.new' _ _ _ (by simp)).alloc _) hb1
  have HB1 : Hid (Below w.heap.size w w1) := (by repeat (first | exact Below.refl _ _ | exact Below_of_hid (by assumption) | refine Below.drew ?_ | refine below_drewN ?_ _ | refine Below_putRow ?_ (by first | omega | (simp; done) | (simp; omega) | fail) _ _ | refine Below.alloc ?_ (by first | omega | (simp; done) | (simp; omega) | fail) _ | refine Below.setCell ?_ (by first | omega | (simp; done) | (simp; omega) | fail) _ | refine Below.trans ?_ (Below.mono (by assumption) (by first | omega | (simp; done) | (simp; omega) | fail))))
  clear hb1
  go_wp2_with fail
  refine (parts_c _ _ N _ HN.out (.of_blk Q0.out)).mono ?_; rintro e w' ⟨rfl, rfl⟩; rw [← HNE.out]
  go_wp2_with fail
  refine (parts_c _ _ M _ HM.out (.of_blk Q1.out)).mono ?_; rintro e w' ⟨rfl, rfl⟩; rw [hn1]
  go_wp2_with fail
  go_loopw [10, 11] (fun s10 s11 wx => ∃ k : Nat, k ≤ n ∧ s11 = .int .i64 ((k : Int) - 1) ∧ s10 = .int .u64 ((N / 2 ^ (64 * k) % M : Nat) : Int) ∧ Hid (Below w.heap.size w wx) ∧ Hid (Blk wx (w.heap.size + 1 + 1 + 1 + 1) (rowW 16 (N / 2 ^ (64 * k) / M * 2 ^ (64 * k))) 66) ∧ Hid (Blk wx w.heap.size (rowW 16 N) 66) ∧ Hid (Blk wx (w.heap.size + 1) (rowW 16 M) 66) ∧ Hid (Blk wx (w.heap.size + 1 + 1) (rowW 16 0) 66) ∧ Hid (Blk wx (w.heap.size + 1 + 1 + 1) (rowW 16 0) 66)) (fun _ s11 _ => (intOf s11 + 1).toNat)
  case atStart =>
    have h0 : N / 2 ^ (64 * n) = 0 := Nat.div_eq_of_lt HNL.out
    refine ⟨n, by omega, rfl, by rw [h0, Nat.zero_mod]; rfl, HB1, ?_, Q0, Q1, Q2, Q3⟩
    rw [h0, Nat.zero_div, Nat.zero_mul]; exact Q4
  case round =>
    clear Q0 Q1 Q2 Q3 Q4 HB1
    obtain ⟨k, hk, rfl, rfl, HB1, Q4, Q0, Q1, Q2, Q3⟩ := hrel
    rcases k with _ | i
    · have e0 : N / 2 ^ (64 * 0) = N := by rw [Nat.mul_zero, Nat.pow_zero, Nat.div_one]
      have e1 : N / 2 ^ (64 * 0) / M * 2 ^ (64 * 0) = N / M := by rw [e0, Nat.mul_zero, Nat.pow_zero, Nat.mul_one]
      rw [e1] at Q4
      rw [e0]
      obtain ⟨r, hr⟩ : ∃ r, r = N % M := ⟨_, rfl⟩
      rw [← hr]
      have hrl : r < 18446744073709551616 := by
        have := Nat.mod_lt N HP.out.1
        have := HP.out.2
        omega
      have hs := row_one r hrl
      have HRM := Lib.hid hr
      have k0 : ((0 : Nat) : Int) - 1 = -1 := rfl
      rw [k0]
      have z4 := Q4.out.lt
      have y0 : w.heap.size < wr.heap.size := by omega
      have y1 : w.heap.size + 1 < wr.heap.size := by omega
      have y2 : w.heap.size + 1 + 1 < wr.heap.size := by omega
      have y3 : w.heap.size + 1 + 1 + 1 < wr.heap.size := by omega
      have r4 := Q4.out.row?_all 16 (by simp)
      have f2 := Q2.out.fits 16 (by simp)
      have f3 := Q3.out.fits 16 (by simp)
      have p2 := Q2.out.put? 0 (rowW 16 (N / M)) (by simp) (by simp)
      clear hr hrl e0 e1 z4
      go_wp2_with fail
      exact bodyPost_row2 16 16 (rowW 16 (N / M)) (rowW 16 r) rfl rfl rfl rfl Try.underlying66 rfl info_size Try.underlying66 rfl info_size (by go_simp) (by go_simp) ⟨by rw [HRM.out], (by repeat (first | exact Below.refl _ _ | exact Below_of_hid (by assumption) | refine Below.drew ?_ | refine below_drewN ?_ _ | refine Below_putRow ?_ (by first | omega | (simp; done) | (simp; omega) | fail) _ _ | refine Below.alloc ?_ (by first | omega | (simp; done) | (simp; omega) | fail) _ | refine Below.setCell ?_ (by first | omega | (simp; done) | (simp; omega) | fail) _ | refine Below.trans ?_ (Below.mono (by assumption) (by first | omega | (simp; done) | (simp; omega) | fail))))⟩
    · obtain ⟨x, hx⟩ : ∃ x, x = N / 2 ^ (64 * (i + 1)) % M := ⟨_, rfl⟩
      obtain ⟨y, hy⟩ : ∃ y, y = wdn N i := ⟨_, rfl⟩
      obtain ⟨q, hq⟩ : ∃ q, q = (x * 18446744073709551616 + y) / M := ⟨_, rfl⟩
      obtain ⟨r, hr⟩ : ∃ r, r = (x * 18446744073709551616 + y) % M := ⟨_, rfl⟩
      rw [← hx]
      have hxM : x < M := by rw [hx]; exact Nat.mod_lt _ HP.out.1
      have hyl : y < 18446744073709551616 := by rw [hy]; exact wdn_lt _ _
      have hql : q < 18446744073709551616 := by
        rw [hq, Nat.div_lt_iff_lt_mul HP.out.1]
        have := Nat.mul_le_mul_right 18446744073709551616 (show x + 1 ≤ M from hxM)
        rw [Nat.add_mul, Nat.mul_comm M] at this; omega
      have ow := one_words N M i HP.out.1
      rw [← hx, ← hy, ← hq, ← hr] at ow
      have HS : Hid (setw (N / 2 ^ (64 * (i + 1)) / M * 2 ^ (64 * (i + 1))) i q = N / 2 ^ (64 * i) / M * 2 ^ (64 * i)) := by
        show _ = _
        rw [setw_quo, ← ow.1, Nat.add_comm q]
      have HSET := Lib.hid (rowW_set 16 (N / 2 ^ (64 * (i + 1)) / M * 2 ^ (64 * (i + 1))) i q hql)
      have HR : Hid (r = N / 2 ^ (64 * i) % M) := ow.2
      have HDIV : Hid (x < M ∧ y < 18446744073709551616 ∧ q = (x * 18446744073709551616 + y) / M ∧ r = (x * 18446744073709551616 + y) % M) := ⟨hxM, hyl, hq, hr⟩
      have e0 : wr.cell? ⟨w.heap.size, i, none⟩ = some (.int .u64 (y : Int)) := by rw [hy]; exact Q0.out.cell (rowW_get' 16 N _ (by omega))
      have e1 : wr.cell? ⟨w.heap.size + 1, 0, none⟩ = some (.int .u64 (M : Int)) := by
        have := Q1.out.cell (rowW_get' 16 M 0 (by omega)); rw [hb0.out] at this; exact this
      have e2 : wr.frozen? ⟨w.heap.size + 1 + 1 + 1 + 1, i, none⟩ = false := Q4.out.frozen _
      have e3 : wr.cell? ⟨w.heap.size + 1 + 1 + 1 + 1, i, none⟩ = some (.int .u64 ((wdn (N / 2 ^ (64 * (i + 1)) / M * 2 ^ (64 * (i + 1))) i : Nat) : Int)) := Q4.out.cell (rowW_get' 16 _ _ (by omega))
      have k0 : ((i + 1 : Nat) : Int) - 1 = (i : Int) := by omega
      have k1 : (0 : Int) ≤ (i : Int) := by omega
      have k2 : (i : Int) < 16 := by omega
      have z4 := Q4.out.lt
      have y0 : w.heap.size < wr.heap.size := by omega
      have y1 : w.heap.size + 1 < wr.heap.size := by omega
      have y2 : w.heap.size + 1 + 1 < wr.heap.size := by omega
      have y3 : w.heap.size + 1 + 1 + 1 < wr.heap.size := by omega
      have y4 : w.heap.size + 1 + 1 + 1 + 1 < wr.heap.size := by omega
      rw [k0]
      clear hx hy hq hr hxM hyl hql ow z4
      go_wp2_with fail
      go_region_held3 (fun w' => w'.cell? ⟨w.heap.size, i, none⟩ = some (.int .u64 (y : Int)) ∧ w'.cell? ⟨w.heap.size + 1, 0, none⟩ = some (.int .u64 (M : Int))) (go_simp)
        (first
          | (go_at_call 108; refine (div64_g x y M q r _ HDIV.out.1 HP.out.2 HDIV.out.2.1 HDIV.out.2.2.1 HDIV.out.2.2.2).mono ?_; rintro e w2 ⟨rfl, hb2⟩; have z_w2 := hb2.size; (try simp at z_w2); obtain ⟨y_w2_0_0, c_w2_0_0, f_w2_0_0, r_w2_0_0, t_w2_0_0, p_w2_0_0⟩ := bk hb2 (w.heap.size) (by first | omega | (simp; done) | (simp; omega) | fail); obtain ⟨y_w2_0_1, c_w2_0_1, f_w2_0_1, r_w2_0_1, t_w2_0_1, p_w2_0_1⟩ := bk hb2 (w.heap.size + 1) (by first | omega | (simp; done) | (simp; omega) | fail); obtain ⟨y_w2_0_2, c_w2_0_2, f_w2_0_2, r_w2_0_2, t_w2_0_2, p_w2_0_2⟩ := bk hb2 (w.heap.size + 1 + 1) (by first | omega | (simp; done) | (simp; omega) | fail); obtain ⟨y_w2_0_3, c_w2_0_3, f_w2_0_3, r_w2_0_3, t_w2_0_3, p_w2_0_3⟩ := bk hb2 (w.heap.size + 1 + 1 + 1) (by first | omega | (simp; done) | (simp; omega) | fail); obtain ⟨y_w2_0_4, c_w2_0_4, f_w2_0_4, r_w2_0_4, t_w2_0_4, p_w2_0_4⟩ := bk hb2 (w.heap.size + 1 + 1 + 1 + 1) (by first | omega | (simp; done) | (simp; omega) | fail)))
      go_wp2_with fail
      refine ⟨⟨i, by omega, rfl, by rw [← HR.out], ?_, ?_, ?_, ?_, ?_, ?_⟩, (by first | (simp [intOf]; done) | (simp [intOf]; omega))⟩
      · exact ((HB1.out.drew).trans (hb2.mono HB1.out.size)).setCell (by simp; omega) _
      · have h := (Q4.out.drew.keep hb2).setCell_same i (.int .u64 (q : Int))
        rw [HSET.out, HS.out] at h; exact h
      · exact (Q0.out.drew.keep hb2).setCell_other (by first | omega | (simp; done) | (simp; omega) | fail) _
      · exact (Q1.out.drew.keep hb2).setCell_other (by first | omega | (simp; done) | (simp; omega) | fail) _
      · exact (Q2.out.drew.keep hb2).setCell_other (by first | omega | (simp; done) | (simp; omega) | fail) _
      · exact (Q3.out.drew.keep hb2).setCell_other (by first | omega | (simp; done) | (simp; omega) | fail) _
end Go.Proofs.Ytfohihjeemmedaa
