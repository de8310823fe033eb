/- The walk of RootRises. -/
import Derived.Test.YtkfdfgecfedeiaaU0
namespace Go.Proofs.Ytkfdfgecfedeiaa
open Go.RowKit

theorem rsqrt_i (n : Int) (r : Nat) (h : -9223372036854775808 ≤ n ∧ n ≤ 9223372036854775807) (hr : r = rt n.toNat) (w : World) :
    Calls Try.prog 8 #[.int .i64 n] w fun e w' => e = .returned (.int .i64 (r : Int)) ∧ Below w.heap.size w w' := by
  have h1 := rsqrt_c n h.1 h.2 w
  rw [show max 0 n = ((n.toNat : Nat) : Int) by omega, wdown_nat n.toNat (lim_small (by omega))] at h1
  have := rt_le n.toNat
  have e : (fitI (rt n.toNat : Nat)).1 = (r : Int) := by unfold fitI; rw [if_pos (by omega), hr]
  rw [e] at h1; exact h1
theorem rup_i (n : Int) (r : Nat) (h : -9223372036854775808 ≤ n ∧ n ≤ 9223372036854775807) (hr : r = up n.toNat) (w : World) :
    Calls Try.prog 9 #[.int .i64 n] w fun e w' => e = .returned (.int .i64 (r : Int)) ∧ Below w.heap.size w w' := by
  have h1 := rup_c n h.1 h.2 w
  have h3 : rt n.toNat < 9223372036854775807 := by
    have := rt_lt n.toNat 3037000500 (by omega)
    omega
  rw [show max 0 n = ((n.toNat : Nat) : Int) by omega, wup_nat n.toNat (lim_small (by omega)) h3] at h1
  rw [hr]; exact h1
theorem mulDiv_v (a b c x e : Int) (ha : -9223372036854775808 ≤ a ∧ a ≤ 9223372036854775807) (hb : -9223372036854775808 ≤ b ∧ b ≤ 9223372036854775807) (hc : -9223372036854775808 ≤ c ∧ c ≤ 9223372036854775807) (h : mulDivV a b c = (x, e)) (w : World) :
    Calls Try.prog 11 #[.int .i64 a, .int .i64 b, .int .i64 c] w fun r w' => r = .returned (.tuple #[.int .i64 x, .int .i64 e]) ∧ Below w.heap.size w w' := by
  have := mulDiv_c a b c ha hb hc w
  rw [h] at this; exact this
theorem mulDivUp_v (a b c x e : Int) (ha : -9223372036854775808 ≤ a ∧ a ≤ 9223372036854775807) (hb : -9223372036854775808 ≤ b ∧ b ≤ 9223372036854775807) (hc : -9223372036854775808 ≤ c ∧ c ≤ 9223372036854775807) (h : mulDivUpV a b c = (x, e)) (w : World) :
    Calls Try.prog 13 #[.int .i64 a, .int .i64 b, .int .i64 c] w fun r w' => r = .returned (.tuple #[.int .i64 x, .int .i64 e]) ∧ Below w.heap.size w w' := by
  have := mulDivUp_c a b c ha hb hc w
  rw [h] at this; exact this
theorem fitI_cases (q : Int) : (∃ x, fitI q = (x, 0) ∧ x = q) ∨ fitI q = (0, 2) := by
  unfold fitI; split
  · exact .inl ⟨q, rfl, rfl⟩
  · exact .inr rfl
theorem floor_le_ceil (a c : Int) (hc : c ≠ 0) : a.fdiv c ≤ -((-a).fdiv c) ∧ -((-a).fdiv c) ≤ a.fdiv c + 1 ∧ (a.fdiv c = -((-a).fdiv c) ↔ a.fdiv c * c = a) := by
  have key : ∀ a c : Int, 0 < c → a.fdiv c ≤ -((-a).fdiv c) ∧ -((-a).fdiv c) ≤ a.fdiv c + 1 ∧ (a.fdiv c = -((-a).fdiv c) ↔ a.fdiv c * c = a) := by
    intro a c hc
    rw [Int.fdiv_eq_ediv_of_nonneg _ (by omega), Int.fdiv_eq_ediv_of_nonneg _ (by omega)]
    have h1 := Int.mul_ediv_add_emod a c
    have h2 := Int.emod_nonneg a (show c ≠ 0 by omega)
    have h3 := Int.emod_lt_of_pos a hc
    have h4 := Int.mul_ediv_add_emod (-a) c
    have h5 := Int.emod_nonneg (-a) (show c ≠ 0 by omega)
    have h6 := Int.emod_lt_of_pos (-a) hc
    generalize a / c = q at *
    generalize a % c = r at *
    generalize (-a) / c = p at *
    generalize (-a) % c = s at *
    -- c (q + p) = -(r + s)
    have e1 : c * (q + p) = -(r + s) := by rw [Int.mul_add]; omega
    have e2 : q + p ≤ 0 := by
      rcases Int.lt_trichotomy (q + p) 0 with h | h | h
      · omega
      · omega
      · have : c * 1 ≤ c * (q + p) := Int.mul_le_mul_of_nonneg_left (by omega) (by omega)
        omega
    have e3 : -1 ≤ q + p := by
      rcases Int.lt_trichotomy (q + p) (-1) with h | h | h
      · have : c * (q + p) ≤ c * (-2) := Int.mul_le_mul_of_nonneg_left (by omega) (by omega)
        omega
      · omega
      · omega
    refine ⟨by omega, by omega, ?_⟩
    rw [Int.mul_comm q c]
    constructor
    · intro h
      have : q + p = 0 := by omega
      rw [this, Int.mul_zero] at e1
      omega
    · intro h
      have hr : r = 0 := by omega
      by_cases hqp : q + p = 0
      · omega
      · have : q + p = -1 := by omega
        rw [this] at e1
        omega
  rcases Int.lt_trichotomy c 0 with h | h | h
  · have := key (-a) (-c) (by omega)
    rw [Int.neg_fdiv_neg, Int.neg_fdiv_neg, Int.mul_neg] at this
    refine ⟨this.1, this.2.1, ?_⟩
    rw [this.2.2]
    constructor
    · intro h2; omega
    · intro h2; omega
  · exact absurd h hc
  · exact key a c h
theorem fdiv_mono {a b c : Int} (hc : 0 < c) (h : a ≤ b) : a.fdiv c ≤ b.fdiv c := by
  rw [Int.fdiv_eq_ediv_of_nonneg _ (by omega), Int.fdiv_eq_ediv_of_nonneg _ (by omega)]
  exact Int.ediv_le_ediv hc h

set_option maxRecDepth 100000 in
set_option maxHeartbeats 4000000 in
theorem rootRises_c (m n a b c : Int) (hm : -9223372036854775808 ≤ m ∧ m ≤ 9223372036854775807) (hn : -9223372036854775808 ≤ n ∧ n ≤ 9223372036854775807) (ha : -9223372036854775808 ≤ a ∧ a ≤ 9223372036854775807) (hb : -9223372036854775808 ≤ b ∧ b ≤ 9223372036854775807) (w : World) :
    Calls Try.prog 6 #[.int .i64 m, .int .i64 n, .int .i64 a, .int .i64 b, .int .i64 c] w fun e w' => e = .returned (.bool true) ∧ Below w.heap.size w w' := by
  obtain ⟨C, hC⟩ : ∃ C : Nat, (C : Int) = c % 1099511627776 + 1 := ⟨(c % 1099511627776 + 1).toNat, by omega⟩
  obtain ⟨C0, hC0⟩ : ∃ C0 : Nat, (C0 : Int) = c % 1099511627776 := ⟨(c % 1099511627776).toNat, by omega⟩
  have a1 : bits .and .i64 c 1099511627775 = (C0 : Int) := by rw [hC0]; exact and_low c 40 1099511627775 (by decide) (by decide)
  have a2 : (C0 : Int) + 1 = (C : Int) := by omega
  have a3 : (C0 : Int) ≤ 1099511627775 := by omega
  have a4 : (0 : Int) ≤ (C0 : Int) := by omega
  have HC : Hid (0 < (C : Int) ∧ (C : Int) ≠ 0 ∧ Sm 63 (C : Int) ∧ (-9223372036854775808 ≤ (C : Int) ∧ (C : Int) ≤ 9223372036854775807)) := ⟨by omega, by omega, Sm.of64 (by omega) (by omega), by omega, by omega⟩
  have H7 : Hid (Sm 63 7 ∧ (-9223372036854775808 ≤ (7 : Int) ∧ (7 : Int) ≤ 9223372036854775807)) := ⟨Sm.of64 (by decide) (by decide), by decide, by decide⟩
  obtain ⟨p, q, hpq, hp⟩ : ∃ p q : Int, p ≤ q ∧ ((m ≤ n ∧ p = m ∧ q = n) ∨ (n < m ∧ p = n ∧ q = m)) := by
    by_cases h : m ≤ n
    · exact ⟨m, n, h, .inl ⟨h, rfl, rfl⟩⟩
    · exact ⟨n, m, by omega, .inr ⟨by omega, rfl, rfl⟩⟩
  obtain ⟨d, f, hdf, hd⟩ : ∃ d f : Int, d ≤ f ∧ ((a ≤ b ∧ d = a ∧ f = b) ∨ (b < a ∧ d = b ∧ f = a)) := by
    by_cases h : a ≤ b
    · exact ⟨a, b, h, .inl ⟨h, rfl, rfl⟩⟩
    · exact ⟨b, a, by omega, .inr ⟨by omega, rfl, rfl⟩⟩
  have HP : Hid ((-9223372036854775808 ≤ p ∧ p ≤ 9223372036854775807) ∧ (-9223372036854775808 ≤ q ∧ q ≤ 9223372036854775807)) := by
    rcases hp with ⟨_, rfl, rfl⟩ | ⟨_, rfl, rfl⟩
    · exact ⟨hm, hn⟩
    · exact ⟨hn, hm⟩
  have HD : Hid ((-9223372036854775808 ≤ d ∧ d ≤ 9223372036854775807) ∧ (-9223372036854775808 ≤ f ∧ f ≤ 9223372036854775807)) := by
    rcases hd with ⟨_, rfl, rfl⟩ | ⟨_, rfl, rfl⟩
    · exact ⟨ha, hb⟩
    · exact ⟨hb, ha⟩
  obtain ⟨rp, hrp⟩ : ∃ rp, rp = rt p.toNat := ⟨_, rfl⟩
  obtain ⟨rq, hrq⟩ : ∃ rq, rq = rt q.toNat := ⟨_, rfl⟩
  obtain ⟨sp, hsp⟩ : ∃ sp, sp = up p.toNat := ⟨_, rfl⟩
  obtain ⟨sq, hsq⟩ : ∃ sq, sq = up q.toNat := ⟨_, rfl⟩
  have l1 : rp ≤ rq := by rw [hrp, hrq]; exact rt_mono (by omega)
  have l2 : sp ≤ sq := by rw [hsp, hsq]; exact up_mono (by omega)
  have l1' : (rp : Int) ≤ (rq : Int) := by omega
  have l2' : (sp : Int) ≤ (sq : Int) := by omega
  have E : Hid (rp = rt p.toNat ∧ rq = rt q.toNat ∧ sp = up p.toNat ∧ sq = up q.toNat) := ⟨hrp, hrq, hsp, hsq⟩
  obtain ⟨x, e, hxe⟩ : ∃ x e, mulDivV d 7 (C : Int) = (x, e) := ⟨_, _, rfl⟩
  obtain ⟨y, g, hyg⟩ : ∃ y g, mulDivV f 7 (C : Int) = (y, g) := ⟨_, _, rfl⟩
  obtain ⟨z, k, hzk⟩ : ∃ z k, mulDivUpV f 7 (C : Int) = (z, k) := ⟨_, _, rfl⟩
  have M : Hid (mulDivV d 7 (C : Int) = (x, e) ∧ mulDivV f 7 (C : Int) = (y, g) ∧ mulDivUpV f 7 (C : Int) = (z, k)) := ⟨hxe, hyg, hzk⟩
  have hcases : (e = 0 ∧ g = 0 → x ≤ y) ∧ (g = 0 ∧ k = 0 → y ≤ z) := by
    rw [mulDiv_eq _ _ _ (Sm.of64 HD.out.1.1 HD.out.1.2) H7.out.1 HC.out.2.2.1, if_neg HC.out.2.1] at hxe
    rw [mulDiv_eq _ _ _ (Sm.of64 HD.out.2.1 HD.out.2.2) H7.out.1 HC.out.2.2.1, if_neg HC.out.2.1] at hyg
    rw [mulDivUp_eq _ _ _ (Sm.of64 HD.out.2.1 HD.out.2.2) H7.out.1 HC.out.2.2.1, if_neg HC.out.2.1] at hzk
    have fx : ∀ q u v : Int, fitI q = (u, v) → v = 0 → u = q := by
      intro q u v h hv
      rcases fitI_cases q with ⟨t, h1, h2⟩ | h1
      · rw [h1] at h; injection h with h3 h4; omega
      · rw [h1] at h; injection h with h3 h4; omega
    constructor
    · rintro ⟨h1, h2⟩
      rw [fx _ _ _ hxe h1, fx _ _ _ hyg h2]
      exact fdiv_mono HC.out.1 (by omega)
    · rintro ⟨h1, h2⟩
      rw [fx _ _ _ hyg h1, fx _ _ _ hzk h2]
      exact (floor_le_ceil _ _ HC.out.2.1).1
  clear hC hC0 hpq hdf hm hn ha hb hrp hrq hsp hsq hxe hyg hzk
  have hc2 : (¬ e = 0 ∧ (e != 0) = true ∨ e = 0 ∧ (e != 0) = false) := by by_cases h : e = 0 <;> simp [h]
  have hc3 : (¬ g = 0 ∧ (g != 0) = true ∨ g = 0 ∧ (g != 0) = false) := by by_cases h : g = 0 <;> simp [h]
  have hc4 : (¬ k = 0 ∧ (k != 0) = true ∨ k = 0 ∧ (k != 0) = false) := by by_cases h : k = 0 <;> simp [h]
  have K1 : Hid (e = 0 → g = 0 → x ≤ y) := fun h1 h2 => hcases.1 ⟨h1, h2⟩
  have K2 : Hid (g = 0 → k = 0 → y ≤ z) := fun h1 h2 => hcases.2 ⟨h1, h2⟩
  clear hcases
  rcases hp with ⟨t1, rfl, rfl⟩ | ⟨t1, rfl, rfl⟩ <;> rcases hd with ⟨t2, rfl, rfl⟩ | ⟨t2, rfl, rfl⟩
  all_goals
    rcases hc2 with ⟨he, he'⟩ | ⟨rfl, he'⟩ <;> rcases hc3 with ⟨hg, hg'⟩ | ⟨rfl, hg'⟩ <;> rcases hc4 with ⟨hk, hk'⟩ | ⟨rfl, hk'⟩
  all_goals (try have j1 := K1.out rfl rfl)
  all_goals (try have j2 := K2.out rfl rfl)
  all_goals
    go_enter Try.func6, Try.ntmps6
    go_wp2_with fail
    refine (mulDiv_v d 7 C x _ HD.out.1 H7.out.2 HC.out.2.2.2 M.out.1 _).mono ?_; rintro e w1 ⟨rfl, hb1⟩; have z1 := hb1.size
    go_wp2_with fail
    refine (mulDiv_v f 7 C y _ HD.out.2 H7.out.2 HC.out.2.2.2 M.out.2.1 _).mono ?_; rintro e w2 ⟨rfl, hb2⟩; have z2 := hb2.size
    go_wp2_with fail
    refine (mulDivUp_v f 7 C z _ HD.out.2 H7.out.2 HC.out.2.2.2 M.out.2.2 _).mono ?_; rintro e w3 ⟨rfl, hb3⟩; have z3 := hb3.size
    go_wp2_with fail
    refine (rsqrt_i p rp HP.out.1 E.out.1 _).mono ?_; rintro e w4 ⟨rfl, hb4⟩; have z4 := hb4.size
    go_wp2_with fail
    refine (rsqrt_i q rq HP.out.2 E.out.2.1 _).mono ?_; rintro e w5 ⟨rfl, hb5⟩; have z5 := hb5.size
    go_wp2_with fail
    refine (rup_i p sp HP.out.1 E.out.2.2.1 _).mono ?_; rintro e w6 ⟨rfl, hb6⟩; have z6 := hb6.size
    go_wp2_with fail
    refine (rup_i q sq HP.out.2 E.out.2.2.2 _).mono ?_; rintro e w7 ⟨rfl, hb7⟩; have z7 := hb7.size
    go_wp2_with fail
    refine (awake_c _).mono ?_; rintro e w8 ⟨rfl, hb8⟩
    go_wp2_with fail
    go_ret
    exact ⟨rfl, (by repeat (first | exact Below.refl _ _ | exact Below_of_hid (by assumption) | refine Below.drew ?_ | refine below_drewN ?_ _ | refine Below_putRow ?_ (by first | omega | (simp; done) | (simp; omega) | fail) _ _ | refine Below.alloc ?_ (by first | omega | (simp; done) | (simp; omega) | fail) _ | refine Below.setCell ?_ (by first | omega | (simp; done) | (simp; omega) | fail) _ | refine Below.trans ?_ (Below.mono (by assumption) (by first | omega | (simp; done) | (simp; omega) | fail))))⟩
end Go.Proofs.Ytkfdfgecfedeiaa
