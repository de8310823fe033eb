/- The walk of TrackHolds. -/
import Derived.Test.YtjfphfnfbgmlfaaK2
import Derived.BigRegion
namespace Go.Proofs.Ytjfphfnfbgmlfaa
open Go.RowKit

/-- The cells of a slice of points. -/
def PtsAt (w : World) (A : Option Addr) (len : Nat) (T : Nat → Int × Int) : Prop :=
  ∀ i : Nat, i < len → ∃ b o, A = some ⟨b, o, none⟩ ∧ b < w.heap.size ∧ w.cell? ⟨b, o + i * 2, none⟩ = some (.int .i64 (T i).1) ∧ w.cell? ⟨b, o + i * 2 + 1, none⟩ = some (.int .i64 (T i).2)
/-- The cells of a slice of numbers. -/
def IntsAt (w : World) (A : Option Addr) (len : Nat) (T : Nat → Int) : Prop :=
  ∀ i : Nat, i < len → ∃ b o, A = some ⟨b, o, none⟩ ∧ b < w.heap.size ∧ w.cell? ⟨b, o + i, none⟩ = some (.int .i64 (T i))
/-- How far one may have gone: at most once in a tick. -/
def Inv (V s t : Int) (f : Bool) (u v : Int) : Prop := s ≤ t ∧ u * u + v * v ≤ (V * (t - s + bif f then 0 else 1)) * (V * (t - s + bif f then 0 else 1))
theorem sq_le_sq {a b : Int} (h0 : 0 ≤ a) (h : a ≤ b) : a * a ≤ b * b := Int.mul_le_mul h h h0 (by omega)
theorem inv_tick {V s t j u v : Int} {f : Bool} (hV : 0 ≤ V) (h : Inv V s t f u v) (hj : 1 ≤ j) : Inv V s (t + j) true u v := by
  obtain ⟨h1, h2⟩ := h
  refine ⟨by omega, Int.le_trans h2 (sq_le_sq (Int.mul_nonneg hV ?_) (Int.mul_le_mul_of_nonneg_left ?_ hV))⟩
  · cases f <;> simp only [cond_true, cond_false] <;> omega
  · cases f <;> simp only [cond_true, cond_false] <;> omega
/-- Two steps: at most as far as both together. -/
theorem two_steps (u v x y R r : Int) (hR : 0 ≤ R) (hr : 0 ≤ r) (h1 : u * u + v * v ≤ R * R) (h2 : x * x + y * y ≤ r * r) : (u + x) * (u + x) + (v + y) * (v + y) ≤ (R + r) * (R + r) := by
  have q1 : 0 ≤ u * u + v * v := by have := int_sq_nonneg u; have := int_sq_nonneg v; omega
  have q2 : 0 ≤ x * x + y * y := by have := int_sq_nonneg x; have := int_sq_nonneg y; omega
  have c1 : (u * x + v * y) * (u * x + v * y) ≤ (R * r) * (R * r) := by
    have e1 : (u * x + v * y) * (u * x + v * y) = (u * u + v * v) * (x * x + y * y) - (u * y - v * x) * (u * y - v * x) := by grind
    have e2 := int_sq_nonneg (u * y - v * x)
    have e3 : (u * u + v * v) * (x * x + y * y) ≤ (R * R) * (r * r) := Int.mul_le_mul h1 h2 q2 (int_sq_nonneg R)
    have e4 : (R * r) * (R * r) = (R * R) * (r * r) := by grind
    omega
  have c2 := (sq_bound (Int.mul_nonneg hR hr) c1).2
  have e5 : (u + x) * (u + x) + (v + y) * (v + y) = (u * u + v * v) + (x * x + y * y) + 2 * (u * x + v * y) := by grind
  have e6 : (R + r) * (R + r) = R * R + r * r + 2 * (R * r) := by grind
  omega
theorem inv_move {V s t u v x y : Int} (hV : 0 ≤ V) (h : Inv V s t true u v) (hx : x * x + y * y ≤ V * V) : Inv V s t false (u + x) (v + y) := by
  obtain ⟨h1, h2⟩ := h
  simp only [cond_true, Int.add_zero] at h2
  refine ⟨h1, ?_⟩
  simp only [cond_false]
  have := two_steps u v x y (V * (t - s)) V (Int.mul_nonneg hV (by omega)) hV h2 hx
  have e : V * (t - s + 1) = V * (t - s) + V := by grind
  rw [e]; exact this
theorem ageE_errs (e : El) (v n : Int) (h : e.may = true) (h1 : 0 ≤ v) (h2 : 0 ≤ n) : (ageE e v n).2 = 0 ∨ (ageE e v n).2 = 2 := by
  unfold ageE
  rw [if_pos ⟨h, h1, h2⟩]
  split
  · exact .inr rfl
  · rename_i hn
    have hr : v * n ≤ 4194304 := by
      by_cases h3 : 0 < n
      · have h4 : v ≤ (4194304 : Int).tdiv n := by
          rcases Int.lt_or_le ((4194304 : Int).tdiv n) v with h5 | h5
          · exact absurd ⟨h3, h5⟩ hn
          · exact h5
        rw [Int.tdiv_eq_ediv_of_nonneg (by decide)] at h4
        have a1 : v * n ≤ 4194304 / n * n := Int.mul_le_mul_of_nonneg_right h4 (by omega)
        have a2 : 4194304 / n * n ≤ 4194304 := Int.ediv_mul_le _ (by omega)
        omega
      · obtain rfl : n = 0 := by omega
        rw [Int.mul_zero]; decide
    have h0 := Int.mul_nonneg h1 h2
    unfold growE
    rw [if_pos ⟨h, h0, hr⟩]
    split
    · exact .inl rfl
    · rename_i hz
      have hb : ballE 0 0 (v * n) = (⟨0, 0, v * n * (v * n), 0, v * n * (v * n)⟩, 0) := by unfold ballE; rw [if_pos ⟨by decide, by omega, hr⟩]
      have mb := ball_may 0 0 (v * n) (by decide) (by omega) hr
      rw [hb]
      unfold sumE
      rw [if_pos ⟨h, mb⟩]
      split
      · exact .inl rfl
      · exact .inr rfl
theorem inv_at {V s t u v p q x y S : Int} {f : Bool} {e g : El} {r : Int} (h : Inv V s t f u v) (hp : e.has p q = true) (hV : 0 ≤ V ∧ V < 1000) (hS : 0 ≤ S ∧ S < 100) (hs : 200 ≤ s ∧ s < 10200) (ht : t ≤ s + 120) (hx : -S ≤ x ∧ x ≤ S) (hy : -S ≤ y ∧ y ≤ S)
    (hg : atE e (s + x) (t + y) V S = (g, r)) : (r = 0 ∧ g.has (p + u) (q + v) = true) ∨ r = 2 := by
  have hm := ((El.has_iff _ _ _).1 hp).1
  obtain ⟨h1, h2⟩ := h
  have hT : ticksE (s + x) (t + y) S = max 0 (t + y - (s + x)) + 2 * S + 1 := by unfold ticksE; rw [if_pos (by simp only [timeB_iff]; omega)]
  have ha : atE e (s + x) (t + y) V S = ageE e V (ticksE (s + x) (t + y) S) := by
    unfold atE; rw [if_pos ⟨hm, (timeB_iff _).2 (by omega), (timeB_iff _).2 (by omega), (timeB_iff _).2 (by omega), by omega, by omega⟩]
  rw [ha, hT] at hg
  obtain ⟨n, hn⟩ : ∃ n, max 0 (t + y - (s + x)) + 2 * S + 1 = n := ⟨_, rfl⟩
  rw [hn] at hg
  have hr := ageE_errs e V n hm hV.1 (by omega)
  rw [hg] at hr
  rcases hr with hr | hr
  · simp only at hr
    subst hr
    left
    refine ⟨rfl, grow_holds (ageE_ok hg).1 p q u v hp (Int.le_trans h2 (sq_le_sq (Int.mul_nonneg hV.1 ?_) (Int.mul_le_mul_of_nonneg_left ?_ hV.1)))⟩
    · cases f <;> simp only [cond_true, cond_false] <;> omega
    · cases f <;> simp only [cond_true, cond_false] <;> omega
  · exact .inr hr
theorem inv_small {V s t u v : Int} {f : Bool} (h : Inv V s t f u v) (hV : 0 ≤ V ∧ V < 1000) (ht : t ≤ s + 120) : (-121000 ≤ u ∧ u ≤ 121000) ∧ (-121000 ≤ v ∧ v ≤ 121000) := by
  obtain ⟨h1, h2⟩ := h
  obtain ⟨N, hN⟩ : ∃ N, t - s + (bif f then 0 else 1) = N := ⟨_, rfl⟩
  rw [hN] at h2
  have n1 : 0 ≤ N ∧ N ≤ 121 := by cases f <;> simp only [cond_true, cond_false] at hN <;> omega
  have k1 : V * N ≤ 1000 * 121 := Int.mul_le_mul (by omega) n1.2 n1.1 (by decide)
  have k0 := Int.mul_nonneg hV.1 n1.1
  have k2 := sq_le_sq k0 k1
  have u0 := int_sq_nonneg u
  have v0 := int_sq_nonneg v
  exact ⟨sq_bound (r := 121000) (by decide) (by omega), sq_bound (r := 121000) (by decide) (by omega)⟩
theorem tmod_pm (z m : Int) (hm : 0 ≤ m) : -m ≤ z.tmod (m + 1) ∧ z.tmod (m + 1) ≤ m := by
  have h1 := Int.lt_tmod_of_pos z (show 0 < m + 1 by omega)
  have h2 := Int.tmod_lt_of_pos z (show 0 < m + 1 by omega)
  omega
theorem sq_box (u m : Int) (h1 : -m ≤ u) (h2 : u ≤ m) : 0 ≤ u * u ∧ u * u ≤ m * m := by
  refine ⟨int_sq_nonneg u, ?_⟩
  have h3 := Int.mul_nonneg (show 0 ≤ m - u by omega) (show 0 ≤ m + u by omega)
  have e : (m - u) * (m + u) = m * m - u * u := by grind
  omega
theorem and_three (x : Int) : 0 ≤ bits .and .i64 x 3 ∧ bits .and .i64 x 3 ≤ 3 := by
  unfold bits
  simp only [BitVec.toNat_and]
  have h : (BitVec.ofInt IntKind.i64.bits x).toNat &&& (BitVec.ofInt IntKind.i64.bits 3).toNat ≤ 3 := Nat.le_trans Nat.and_le_right (by decide)
  obtain ⟨n, hn⟩ : ∃ n, (BitVec.ofInt IntKind.i64.bits x).toNat &&& (BitVec.ofInt IntKind.i64.bits 3).toNat = n := ⟨_, rfl⟩
  rw [hn] at h ⊢
  rw [IntKind.wrap_i64]
  omega
theorem bk_facts {w : World} {b : Nat} {c : Array Value} {t : TypeId} (h : Blk w b c t) :
    b < w.heap.size ∧ (∀ o, w.cell? ⟨b, o, none⟩ = c[o]?) ∧ (∀ o, w.frozen? ⟨b, o, none⟩ = false) ∧ w.row? b 0 c.size = some c :=
  ⟨h.lt, h.at, h.frozen, h.row?_all _ rfl⟩
set_option maxRecDepth 100000 in
set_option maxHeartbeats 16000000 in
theorem trackHolds_c (x y a b d p q n2 : Int) (A : Option Addr) (len cap : Nat) (T : Nat → Int × Int) (A' : Option Addr) (len' cap' : Nat) (T' : Nat → Int) (n5 n6 n7 n8 : Int) (w : World) (hT : PtsAt w A len T) (hT' : IntsAt w A' len' T') (hlen : len ≤ 9223372036854775807) (hlen' : len' ≤ 9223372036854775807) :
    Calls Try.prog 8 #[elC x y a b d, ptV p q, .int .i64 n2, .slice A len cap, .slice A' len' cap', .int .i64 n5, .int .i64 n6, .int .i64 n7, .int .i64 n8] w fun e w' => e = .returned (.bool true) ∧ Below w.heap.size w w' := by
  have HT := Lib.hid hT
  have HT' := Lib.hid hT'
  clear hT hT'
  cases hp : El.has ⟨x, y, a, b, d⟩ p q with
  | false =>
    have HP := Lib.hid hp
    clear hp
    go_enter Try.func8, Try.ntmps8
    go_wp2_with fail
    refine (ellin_v _ _ _ _ _ _ _ _ HP.out _).mono ?_; rintro e w1 ⟨rfl, hb1⟩; have s1 := hb1.size; (try simp at s1)
    go_wp2_with fail
    refine (awake19_c _).mono ?_; rintro e w2 ⟨rfl, hb2⟩
    go_wp2
    go_ret
    exact ⟨rfl, (by repeat (first | with_reducible exact Below.refl _ _ | with_reducible exact Below_of_hid (by assumption) | with_reducible refine Below.drew ?_ | with_reducible refine below_drewN ?_ _ | (with_reducible refine Below_putRow ?_ ?hB _ _; case hB => (first | omega | (simp; done) | (simp; omega))) | (with_reducible refine Below.alloc ?_ ?hB _; case hB => (first | omega | (simp; done) | (simp; omega))) | (with_reducible refine Below.setCell ?_ ?hB _; case hB => (first | omega | (simp; done) | (simp; omega))) | (with_reducible refine Below.trans ?_ (Below.mono (by assumption) ?hB); case hB => (first | omega | (simp; done) | (simp; omega)))))⟩
  | true =>
    have HP := Lib.hid hp
    obtain ⟨-, ⟨pb1, pb2, pb3, pb4⟩, -⟩ := (El.has_iff _ _ _).1 hp
    obtain ⟨V, hV⟩ : ∃ K, wrap64 ((IntKind.u64.wrap n5).tmod 1000) = K := ⟨_, rfl⟩
    obtain ⟨S, hS⟩ : ∃ K, wrap64 ((IntKind.u64.wrap n6).tmod 100) = K := ⟨_, rfl⟩
    obtain ⟨s0, hs0⟩ : ∃ K, wrap64 ((IntKind.u64.wrap n2).tmod 10000) = K := ⟨_, rfl⟩
    have V0 : 0 ≤ V ∧ V < 1000 := by rw [← hV]; exact rem_range n5 1000 (by decide) (by decide)
    have S0 : 0 ≤ S ∧ S < 100 := by rw [← hS]; exact rem_range n6 100 (by decide) (by decide)
    have z0 : 0 ≤ s0 ∧ s0 < 10000 := by rw [← hs0]; exact rem_range n2 10000 (by decide) (by decide)
    obtain ⟨s, hs⟩ : ∃ s, 200 + s0 = s := ⟨_, rfl⟩
    have s1 : 200 ≤ s ∧ s < 10200 := by omega
    obtain ⟨X, hX⟩ : ∃ X, n7.tmod (S + 1) = X := ⟨_, rfl⟩
    obtain ⟨Y, hY⟩ : ∃ X, n8.tmod (S + 1) = X := ⟨_, rfl⟩
    have X0 : -S ≤ X ∧ X ≤ S := by rw [← hX]; exact tmod_pm n7 S S0.1
    have Y0 : -S ≤ Y ∧ Y ≤ S := by rw [← hY]; exact tmod_pm n8 S S0.1
    have nz : ¬ S + 1 = 0 := by omega
    obtain ⟨V1, V2⟩ := V0
    obtain ⟨S1, S2⟩ := S0
    obtain ⟨X1, X2⟩ := X0
    obtain ⟨Y1, Y2⟩ := Y0
    obtain ⟨z1, z2⟩ := z0
    obtain ⟨s1, s2⟩ := s1
    clear hp
    go_enter Try.func8, Try.ntmps8
    go_wp2_with fail
    refine (ellin_v _ _ _ _ _ _ _ _ HP.out _).mono ?_; rintro e w1 ⟨rfl, hb1⟩; have z_w1 := hb1.size; (try simp at z_w1); obtain ⟨y_w1_0_0, c_w1_0_0, f_w1_0_0, r_w1_0_0, t_w1_0_0, p_w1_0_0⟩ := bk hb1 (w.heap.size) (by first | omega | (simp; done) | (simp; omega) | fail); obtain ⟨y_w1_0_1, c_w1_0_1, f_w1_0_1, r_w1_0_1, t_w1_0_1, p_w1_0_1⟩ := bk hb1 (w.heap.size + 1) (by first | omega | (simp; done) | (simp; omega) | fail)
    have BE : Hid (Blk w1 w.heap.size #[.int .i64 x, .int .i64 y, .int .i64 a, .int .i64 b, .int .i64 d] 27) := ((Blk.new _ _ _).alloc _).keep hb1
    have BP : Hid (Blk w1 (w.heap.size + 1) #[.int .i64 p, .int .i64 q] 23) := (Blk.new' _ _ _ (by simp)).keep hb1
    have HB : Hid (Below w.heap.size w w1) := (show Below _ _ _ from (by repeat (first | with_reducible exact Below.refl _ _ | with_reducible exact Below_of_hid (by assumption) | with_reducible refine Below.drew ?_ | with_reducible refine below_drewN ?_ _ | (with_reducible refine Below_putRow ?_ ?hB _ _; case hB => (first | omega | (simp; done) | (simp; omega))) | (with_reducible refine Below.alloc ?_ ?hB _; case hB => (first | omega | (simp; done) | (simp; omega))) | (with_reducible refine Below.setCell ?_ ?hB _; case hB => (first | omega | (simp; done) | (simp; omega))) | (with_reducible refine Below.trans ?_ (Below.mono (by assumption) ?hB); case hB => (first | omega | (simp; done) | (simp; omega))))))
    clear z_w1 y_w1_0_0 c_w1_0_0 f_w1_0_0 r_w1_0_0 t_w1_0_0 p_w1_0_0 y_w1_0_1 c_w1_0_1 f_w1_0_1 r_w1_0_1 t_w1_0_1 p_w1_0_1
    clear hb1
    go_wp2_with fail
    go_region
    go_wp2_with fail
    simp only [hV, hS, hs0]
    clear hV hS hs0 hs hX hY z1 z2
    go_loopw [19, 20, 54] (fun tt tf ti wr => ∃ (k : Nat) (t u v : Int) (f : Bool), k ≤ len ∧ k ≤ 40 ∧ ti = .int .i64 k ∧ tt = .int .i64 t ∧ tf = .bool f ∧ t ≤ s + 3 * k ∧ Inv V s t f u v ∧ Hid (Blk wr w.heap.size #[.int .i64 x, .int .i64 y, .int .i64 a, .int .i64 b, .int .i64 d] 27) ∧ Hid (Blk wr (w.heap.size + 1) #[.int .i64 (p + u), .int .i64 (q + v)] 23) ∧ Hid (Below w.heap.size w wr)) (fun _ _ ti _ => len - (intOf ti).toNat)
    case atStart =>
      refine ⟨0, s, 0, 0, true, by omega, by omega, rfl, rfl, rfl, by omega, ⟨by omega, by simp⟩, ?_, ?_, ?_⟩
      · exact BE.out
      · rw [Int.add_zero, Int.add_zero]; exact BP.out
      · exact (show Below _ _ _ from (by repeat (first | with_reducible exact Below.refl _ _ | with_reducible exact Below_of_hid (by assumption) | with_reducible refine Below.drew ?_ | with_reducible refine below_drewN ?_ _ | (with_reducible refine Below_putRow ?_ ?hB _ _; case hB => (first | omega | (simp; done) | (simp; omega))) | (with_reducible refine Below.alloc ?_ ?hB _; case hB => (first | omega | (simp; done) | (simp; omega))) | (with_reducible refine Below.setCell ?_ ?hB _; case hB => (first | omega | (simp; done) | (simp; omega))) | (with_reducible refine Below.trans ?_ (Below.mono (by assumption) ?hB); case hB => (first | omega | (simp; done) | (simp; omega))))))
    case round =>
      obtain ⟨k, t, u, v, f, hk, hk40, rfl, rfl, rfl, ht, hI, BE2, BP2, HB2⟩ := hrel
      clear BE BP HB
      by_cases hlt : k < len
      · obtain ⟨mb, mo, rfl, hmb, hc1, hc2⟩ := HT.out k hlt
        obtain ⟨MX, hMX⟩ : ∃ z, (T k).1 = z := ⟨_, rfl⟩
        obtain ⟨MY, hMY⟩ : ∃ z, (T k).2 = z := ⟨_, rfl⟩
        rw [hMX] at hc1; rw [hMY] at hc2
        have mc1 : wr.cell? ⟨mb, mo + k * 2, none⟩ = some (.int .i64 MX) := (HB2.out.cell (p := ⟨mb, mo + k * 2, none⟩) hmb).trans hc1
        have mc2 : wr.cell? ⟨mb, mo + k * 2 + 1, none⟩ = some (.int .i64 MY) := (HB2.out.cell (p := ⟨mb, mo + k * 2 + 1, none⟩) hmb).trans hc2
        clear hc1 hc2 hMX hMY
        have k1 : (k : Int) < len := by omega
        have k2 : (0 : Int) ≤ k := by omega
        by_cases h40 : k < 40
        · have k3 : ¬ (40 : Int) ≤ k := by omega
          -- WAYS
          have hsm := inv_small hI ⟨V1, V2⟩ (by omega)
          obtain ⟨⟨us1, us2⟩, ⟨vs1, vs2⟩⟩ := hsm
          have hst := hI.1
          obtain ⟨PU, hPU⟩ : ∃ z, p + u = z := ⟨_, rfl⟩
          obtain ⟨QV, hQV⟩ : ∃ z, q + v = z := ⟨_, rfl⟩
          have pu1 : -1074000000 ≤ PU ∧ PU ≤ 1074000000 := by omega
          have qv1 : -1074000000 ≤ QV ∧ QV ≤ 1074000000 := by omega
          obtain ⟨pu2, pu3⟩ := pu1
          obtain ⟨qv2, qv3⟩ := qv1
          rw [hPU, hQV] at BP2
          obtain ⟨U, hU⟩ : ∃ z, MX.tmod 1000 = z := ⟨_, rfl⟩
          obtain ⟨Z, hZ⟩ : ∃ z, MY.tmod 1000 = z := ⟨_, rfl⟩
          have u0 : -999 ≤ U ∧ U ≤ 999 := by rw [← hU]; exact tmod_pm MX 999 (by decide)
          have v0 : -999 ≤ Z ∧ Z ≤ 999 := by rw [← hZ]; exact tmod_pm MY 999 (by decide)
          obtain ⟨u01, u02⟩ := u0
          obtain ⟨v01, v02⟩ := v0
          have bSU := sq_box U 999 (by omega) (by omega)
          obtain ⟨SU, hSU⟩ : ∃ z, U * U = z := ⟨_, rfl⟩
          rw [hSU] at bSU
          obtain ⟨bSU1, bSU2⟩ := bSU
          have bSZ := sq_box Z 999 (by omega) (by omega)
          obtain ⟨SZ, hSZ⟩ : ∃ z, Z * Z = z := ⟨_, rfl⟩
          rw [hSZ] at bSZ
          obtain ⟨bSZ1, bSZ2⟩ := bSZ
          have bSV := sq_box V 999 (by omega) (by omega)
          obtain ⟨SV, hSV⟩ : ∃ z, V * V = z := ⟨_, rfl⟩
          rw [hSV] at bSV
          obtain ⟨bSV1, bSV2⟩ := bSV
          obtain ⟨y1, c1, f1, -⟩ := bk_facts BE2.out
          obtain ⟨y2, c2, f2, -⟩ := bk_facts BP2.out
          have mb1 : mb < wr.heap.size := Nat.lt_of_lt_of_le hmb HB2.out.size
          by_cases hkl : k < len'
          · obtain ⟨tb, tq, rfl, htb, hc3⟩ := HT'.out k hkl
            have mc3 : wr.cell? ⟨tb, tq + k, none⟩ = some (.int .i64 (T' k)) := (HB2.out.cell (p := ⟨tb, tq + k, none⟩) htb).trans hc3
            obtain ⟨TK, hTK⟩ : ∃ z, T' k = z := ⟨_, rfl⟩
            rw [hTK] at mc3
            clear hc3 hTK
            have k4 : (k : Int) < len' := by omega
            have tb1 : tb < wr.heap.size := Nat.lt_of_lt_of_le htb HB2.out.size
            obtain ⟨J, hJ⟩ : ∃ z, bits .and .i64 TK 3 = z := ⟨_, rfl⟩
            have j0 : 0 ≤ J ∧ J ≤ 3 := by rw [← hJ]; exact and_three TK
            obtain ⟨j1, j2⟩ := j0
            by_cases hj : J = 0
            · subst hj
              cases f with
              | false =>
                obtain ⟨⟨gx, gy, ga, gb, gd⟩, r, hg⟩ : ∃ o r, atE ⟨x, y, a, b, d⟩ (s + X) (t + Y) V S = (o, r) := ⟨_, _, rfl⟩
                have HG := Lib.hid hg
                have ways := inv_at hI HP.out ⟨V1, V2⟩ ⟨S1, S2⟩ ⟨s1, s2⟩ (by omega) ⟨X1, X2⟩ ⟨Y1, Y2⟩ hg
                rw [hPU, hQV] at ways
                have HI := Lib.hid hI
                clear hg
                rcases ways with ⟨rfl, hh⟩ | rfl
                · have HH := Lib.hid hh
                  clear hh
                  go_wp2_with fail
                  refine (at_v _ _ _ _ _ _ _ _ _ _ _ _ _ _ _ HG.out _).mono ?_; rintro e w5 ⟨rfl, hb5⟩; have z_w5 := hb5.size; (try simp at z_w5); obtain ⟨y_w5_0_0, c_w5_0_0, f_w5_0_0, r_w5_0_0, t_w5_0_0, p_w5_0_0⟩ := bk hb5 (w.heap.size) (by first | omega | (simp; done) | (simp; omega) | fail); obtain ⟨y_w5_0_1, c_w5_0_1, f_w5_0_1, r_w5_0_1, t_w5_0_1, p_w5_0_1⟩ := bk hb5 (w.heap.size + 1) (by first | omega | (simp; done) | (simp; omega) | fail)
                  have E5 := (BE2.out.alloc _).keep hb5
                  have P5 := (BP2.out.alloc _).keep hb5
                  have hbr := HB2.out
                  go_wp2_with fail
                  refine (ellin_v _ _ _ _ _ _ _ _ HH.out _).mono ?_; rintro e w6 ⟨rfl, hb6⟩; have z6 := hb6.size; (try simp at z6)
                  go_wp2_with fail
                  go_roundw
                  case rel =>
                    refine ⟨k + 1, t, u, v, false, by omega, by omega, by go_num, rfl, rfl, by omega, HI.out, ?_, ?_, ?_⟩
                    · exact ((E5.alloc _).keep hb6)
                    · exact Blk.of_eq ((P5.alloc _).keep hb6) (show _ = _ from by first | (rw [← hPU, ← hQV]; done) | (rw [← hPU, ← hQV]; simp [Int.add_assoc]))
                    · exact (show Below _ _ _ from (by repeat (first | with_reducible exact Below.refl _ _ | with_reducible exact Below_of_hid (by assumption) | with_reducible refine Below.drew ?_ | with_reducible refine below_drewN ?_ _ | (with_reducible refine Below_putRow ?_ ?hB _ _; case hB => (first | omega | (simp; done) | (simp; omega))) | (with_reducible refine Below.alloc ?_ ?hB _; case hB => (first | omega | (simp; done) | (simp; omega))) | (with_reducible refine Below.setCell ?_ ?hB _; case hB => (first | omega | (simp; done) | (simp; omega))) | (with_reducible refine Below.trans ?_ (Below.mono (by assumption) ?hB); case hB => (first | omega | (simp; done) | (simp; omega))))))
                  case measure => simp [intOf]; omega
                · have hk9 := hk40
                  go_wp2_with fail
                  refine (at_v _ _ _ _ _ _ _ _ _ _ _ _ _ _ _ HG.out _).mono ?_; rintro e w5 ⟨rfl, hb5⟩; have z_w5 := hb5.size; (try simp at z_w5); obtain ⟨y_w5_0_0, c_w5_0_0, f_w5_0_0, r_w5_0_0, t_w5_0_0, p_w5_0_0⟩ := bk hb5 (w.heap.size) (by first | omega | (simp; done) | (simp; omega) | fail); obtain ⟨y_w5_0_1, c_w5_0_1, f_w5_0_1, r_w5_0_1, t_w5_0_1, p_w5_0_1⟩ := bk hb5 (w.heap.size + 1) (by first | omega | (simp; done) | (simp; omega) | fail)
                  have E5 := (BE2.out.alloc _).keep hb5
                  have P5 := (BP2.out.alloc _).keep hb5
                  have hbr := HB2.out
                  go_wp2_with fail
                  go_roundw
                  case rel =>
                    refine ⟨k + 1, t, u, v, false, by omega, by omega, by go_num, rfl, rfl, by omega, HI.out, ?_, ?_, ?_⟩
                    · exact (E5.alloc _)
                    · exact Blk.of_eq (P5.alloc _) (show _ = _ from by first | (rw [← hPU, ← hQV]; done) | (rw [← hPU, ← hQV]; simp [Int.add_assoc]))
                    · exact (show Below _ _ _ from (by repeat (first | with_reducible exact Below.refl _ _ | with_reducible exact Below_of_hid (by assumption) | with_reducible refine Below.drew ?_ | with_reducible refine below_drewN ?_ _ | (with_reducible refine Below_putRow ?_ ?hB _ _; case hB => (first | omega | (simp; done) | (simp; omega))) | (with_reducible refine Below.alloc ?_ ?hB _; case hB => (first | omega | (simp; done) | (simp; omega))) | (with_reducible refine Below.setCell ?_ ?hB _; case hB => (first | omega | (simp; done) | (simp; omega))) | (with_reducible refine Below.trans ?_ (Below.mono (by assumption) ?hB); case hB => (first | omega | (simp; done) | (simp; omega))))))
                  case measure => simp [intOf]; omega
              | true =>
                by_cases hm : SU + SZ ≤ SV
                · have hI3 := inv_move V1 hI (show U * U + Z * Z ≤ V * V by omega)
                  obtain ⟨⟨gx, gy, ga, gb, gd⟩, r, hg⟩ : ∃ o r, atE ⟨x, y, a, b, d⟩ (s + X) (t + Y) V S = (o, r) := ⟨_, _, rfl⟩
                  have HG := Lib.hid hg
                  have ways := inv_at hI3 HP.out ⟨V1, V2⟩ ⟨S1, S2⟩ ⟨s1, s2⟩ (by omega) ⟨X1, X2⟩ ⟨Y1, Y2⟩ hg
                  rw [← Int.add_assoc, ← Int.add_assoc, hPU, hQV] at ways
                  have HI := Lib.hid hI3
                  clear hg
                  rcases ways with ⟨rfl, hh⟩ | rfl
                  · have HH := Lib.hid hh
                    clear hh
                    go_wp2_with fail
                    refine (at_v _ _ _ _ _ _ _ _ _ _ _ _ _ _ _ HG.out _).mono ?_; rintro e w5 ⟨rfl, hb5⟩; have z_w5 := hb5.size; (try simp at z_w5); obtain ⟨y_w5_0_0, c_w5_0_0, f_w5_0_0, r_w5_0_0, t_w5_0_0, p_w5_0_0⟩ := bk hb5 (w.heap.size) (by first | omega | (simp; done) | (simp; omega) | fail); obtain ⟨y_w5_0_1, c_w5_0_1, f_w5_0_1, r_w5_0_1, t_w5_0_1, p_w5_0_1⟩ := bk hb5 (w.heap.size + 1) (by first | omega | (simp; done) | (simp; omega) | fail)
                    have E5 := (((BE2.out.setCell_other (a := ⟨w.heap.size + 1, 0, none⟩) (by simp) _).setCell_other (a := ⟨w.heap.size + 1, 1, none⟩) (by simp) _).alloc _).keep hb5
                    have P5 := (((BP2.out.setCell_same 0 _).setCell_same 1 _).alloc _).keep hb5
                    have hbr := HB2.out
                    go_wp2_with fail
                    refine (ellin_v _ _ _ _ _ _ _ _ HH.out _).mono ?_; rintro e w6 ⟨rfl, hb6⟩; have z6 := hb6.size; (try simp at z6)
                    go_wp2_with fail
                    go_roundw
                    case rel =>
                      refine ⟨k + 1, t, u + U, v + Z, false, by omega, by omega, by go_num, rfl, rfl, by omega, HI.out, ?_, ?_, ?_⟩
                      · exact ((E5.alloc _).keep hb6)
                      · exact Blk.of_eq ((P5.alloc _).keep hb6) (show _ = _ from by first | (rw [← hPU, ← hQV]; done) | (rw [← hPU, ← hQV]; simp [Int.add_assoc]))
                      · exact (show Below _ _ _ from (by repeat (first | with_reducible exact Below.refl _ _ | with_reducible exact Below_of_hid (by assumption) | with_reducible refine Below.drew ?_ | with_reducible refine below_drewN ?_ _ | (with_reducible refine Below_putRow ?_ ?hB _ _; case hB => (first | omega | (simp; done) | (simp; omega))) | (with_reducible refine Below.alloc ?_ ?hB _; case hB => (first | omega | (simp; done) | (simp; omega))) | (with_reducible refine Below.setCell ?_ ?hB _; case hB => (first | omega | (simp; done) | (simp; omega))) | (with_reducible refine Below.trans ?_ (Below.mono (by assumption) ?hB); case hB => (first | omega | (simp; done) | (simp; omega))))))
                    case measure => simp [intOf]; omega
                  · have hk9 := hk40
                    go_wp2_with fail
                    refine (at_v _ _ _ _ _ _ _ _ _ _ _ _ _ _ _ HG.out _).mono ?_; rintro e w5 ⟨rfl, hb5⟩; have z_w5 := hb5.size; (try simp at z_w5); obtain ⟨y_w5_0_0, c_w5_0_0, f_w5_0_0, r_w5_0_0, t_w5_0_0, p_w5_0_0⟩ := bk hb5 (w.heap.size) (by first | omega | (simp; done) | (simp; omega) | fail); obtain ⟨y_w5_0_1, c_w5_0_1, f_w5_0_1, r_w5_0_1, t_w5_0_1, p_w5_0_1⟩ := bk hb5 (w.heap.size + 1) (by first | omega | (simp; done) | (simp; omega) | fail)
                    have E5 := (((BE2.out.setCell_other (a := ⟨w.heap.size + 1, 0, none⟩) (by simp) _).setCell_other (a := ⟨w.heap.size + 1, 1, none⟩) (by simp) _).alloc _).keep hb5
                    have P5 := (((BP2.out.setCell_same 0 _).setCell_same 1 _).alloc _).keep hb5
                    have hbr := HB2.out
                    go_wp2_with fail
                    go_roundw
                    case rel =>
                      refine ⟨k + 1, t, u + U, v + Z, false, by omega, by omega, by go_num, rfl, rfl, by omega, HI.out, ?_, ?_, ?_⟩
                      · exact (E5.alloc _)
                      · exact Blk.of_eq (P5.alloc _) (show _ = _ from by first | (rw [← hPU, ← hQV]; done) | (rw [← hPU, ← hQV]; simp [Int.add_assoc]))
                      · exact (show Below _ _ _ from (by repeat (first | with_reducible exact Below.refl _ _ | with_reducible exact Below_of_hid (by assumption) | with_reducible refine Below.drew ?_ | with_reducible refine below_drewN ?_ _ | (with_reducible refine Below_putRow ?_ ?hB _ _; case hB => (first | omega | (simp; done) | (simp; omega))) | (with_reducible refine Below.alloc ?_ ?hB _; case hB => (first | omega | (simp; done) | (simp; omega))) | (with_reducible refine Below.setCell ?_ ?hB _; case hB => (first | omega | (simp; done) | (simp; omega))) | (with_reducible refine Below.trans ?_ (Below.mono (by assumption) ?hB); case hB => (first | omega | (simp; done) | (simp; omega))))))
                    case measure => simp [intOf]; omega
                · have hm2 : SV < SU + SZ := by omega
                  obtain ⟨⟨gx, gy, ga, gb, gd⟩, r, hg⟩ : ∃ o r, atE ⟨x, y, a, b, d⟩ (s + X) (t + Y) V S = (o, r) := ⟨_, _, rfl⟩
                  have HG := Lib.hid hg
                  have ways := inv_at hI HP.out ⟨V1, V2⟩ ⟨S1, S2⟩ ⟨s1, s2⟩ (by omega) ⟨X1, X2⟩ ⟨Y1, Y2⟩ hg
                  rw [hPU, hQV] at ways
                  have HI := Lib.hid hI
                  clear hg
                  rcases ways with ⟨rfl, hh⟩ | rfl
                  · have HH := Lib.hid hh
                    clear hh
                    go_wp2_with fail
                    refine (at_v _ _ _ _ _ _ _ _ _ _ _ _ _ _ _ HG.out _).mono ?_; rintro e w5 ⟨rfl, hb5⟩; have z_w5 := hb5.size; (try simp at z_w5); obtain ⟨y_w5_0_0, c_w5_0_0, f_w5_0_0, r_w5_0_0, t_w5_0_0, p_w5_0_0⟩ := bk hb5 (w.heap.size) (by first | omega | (simp; done) | (simp; omega) | fail); obtain ⟨y_w5_0_1, c_w5_0_1, f_w5_0_1, r_w5_0_1, t_w5_0_1, p_w5_0_1⟩ := bk hb5 (w.heap.size + 1) (by first | omega | (simp; done) | (simp; omega) | fail)
                    have E5 := (BE2.out.alloc _).keep hb5
                    have P5 := (BP2.out.alloc _).keep hb5
                    have hbr := HB2.out
                    go_wp2_with fail
                    refine (ellin_v _ _ _ _ _ _ _ _ HH.out _).mono ?_; rintro e w6 ⟨rfl, hb6⟩; have z6 := hb6.size; (try simp at z6)
                    go_wp2_with fail
                    go_roundw
                    case rel =>
                      refine ⟨k + 1, t, u, v, true, by omega, by omega, by go_num, rfl, rfl, by omega, HI.out, ?_, ?_, ?_⟩
                      · exact ((E5.alloc _).keep hb6)
                      · exact Blk.of_eq ((P5.alloc _).keep hb6) (show _ = _ from by first | (rw [← hPU, ← hQV]; done) | (rw [← hPU, ← hQV]; simp [Int.add_assoc]))
                      · exact (show Below _ _ _ from (by repeat (first | with_reducible exact Below.refl _ _ | with_reducible exact Below_of_hid (by assumption) | with_reducible refine Below.drew ?_ | with_reducible refine below_drewN ?_ _ | (with_reducible refine Below_putRow ?_ ?hB _ _; case hB => (first | omega | (simp; done) | (simp; omega))) | (with_reducible refine Below.alloc ?_ ?hB _; case hB => (first | omega | (simp; done) | (simp; omega))) | (with_reducible refine Below.setCell ?_ ?hB _; case hB => (first | omega | (simp; done) | (simp; omega))) | (with_reducible refine Below.trans ?_ (Below.mono (by assumption) ?hB); case hB => (first | omega | (simp; done) | (simp; omega))))))
                    case measure => simp [intOf]; omega
                  · have hk9 := hk40
                    go_wp2_with fail
                    refine (at_v _ _ _ _ _ _ _ _ _ _ _ _ _ _ _ HG.out _).mono ?_; rintro e w5 ⟨rfl, hb5⟩; have z_w5 := hb5.size; (try simp at z_w5); obtain ⟨y_w5_0_0, c_w5_0_0, f_w5_0_0, r_w5_0_0, t_w5_0_0, p_w5_0_0⟩ := bk hb5 (w.heap.size) (by first | omega | (simp; done) | (simp; omega) | fail); obtain ⟨y_w5_0_1, c_w5_0_1, f_w5_0_1, r_w5_0_1, t_w5_0_1, p_w5_0_1⟩ := bk hb5 (w.heap.size + 1) (by first | omega | (simp; done) | (simp; omega) | fail)
                    have E5 := (BE2.out.alloc _).keep hb5
                    have P5 := (BP2.out.alloc _).keep hb5
                    have hbr := HB2.out
                    go_wp2_with fail
                    go_roundw
                    case rel =>
                      refine ⟨k + 1, t, u, v, true, by omega, by omega, by go_num, rfl, rfl, by omega, HI.out, ?_, ?_, ?_⟩
                      · exact (E5.alloc _)
                      · exact Blk.of_eq (P5.alloc _) (show _ = _ from by first | (rw [← hPU, ← hQV]; done) | (rw [← hPU, ← hQV]; simp [Int.add_assoc]))
                      · exact (show Below _ _ _ from (by repeat (first | with_reducible exact Below.refl _ _ | with_reducible exact Below_of_hid (by assumption) | with_reducible refine Below.drew ?_ | with_reducible refine below_drewN ?_ _ | (with_reducible refine Below_putRow ?_ ?hB _ _; case hB => (first | omega | (simp; done) | (simp; omega))) | (with_reducible refine Below.alloc ?_ ?hB _; case hB => (first | omega | (simp; done) | (simp; omega))) | (with_reducible refine Below.setCell ?_ ?hB _; case hB => (first | omega | (simp; done) | (simp; omega))) | (with_reducible refine Below.trans ?_ (Below.mono (by assumption) ?hB); case hB => (first | omega | (simp; done) | (simp; omega))))))
                    case measure => simp [intOf]; omega
            · have jn : (J != 0) = true := by simp [hj]
              have hI2 := inv_tick V1 hI (show 1 ≤ J by omega)
              by_cases hm : SU + SZ ≤ SV
              · have hI3 := inv_move V1 hI2 (show U * U + Z * Z ≤ V * V by omega)
                obtain ⟨⟨gx, gy, ga, gb, gd⟩, r, hg⟩ : ∃ o r, atE ⟨x, y, a, b, d⟩ (s + X) (t + J + Y) V S = (o, r) := ⟨_, _, rfl⟩
                have HG := Lib.hid hg
                have ways := inv_at hI3 HP.out ⟨V1, V2⟩ ⟨S1, S2⟩ ⟨s1, s2⟩ (by omega) ⟨X1, X2⟩ ⟨Y1, Y2⟩ hg
                rw [← Int.add_assoc, ← Int.add_assoc, hPU, hQV] at ways
                have HI := Lib.hid hI3
                clear hg
                rcases ways with ⟨rfl, hh⟩ | rfl
                · have HH := Lib.hid hh
                  clear hh
                  go_wp2_with fail
                  refine (at_v _ _ _ _ _ _ _ _ _ _ _ _ _ _ _ HG.out _).mono ?_; rintro e w5 ⟨rfl, hb5⟩; have z_w5 := hb5.size; (try simp at z_w5); obtain ⟨y_w5_0_0, c_w5_0_0, f_w5_0_0, r_w5_0_0, t_w5_0_0, p_w5_0_0⟩ := bk hb5 (w.heap.size) (by first | omega | (simp; done) | (simp; omega) | fail); obtain ⟨y_w5_0_1, c_w5_0_1, f_w5_0_1, r_w5_0_1, t_w5_0_1, p_w5_0_1⟩ := bk hb5 (w.heap.size + 1) (by first | omega | (simp; done) | (simp; omega) | fail)
                  have E5 := (((BE2.out.setCell_other (a := ⟨w.heap.size + 1, 0, none⟩) (by simp) _).setCell_other (a := ⟨w.heap.size + 1, 1, none⟩) (by simp) _).alloc _).keep hb5
                  have P5 := (((BP2.out.setCell_same 0 _).setCell_same 1 _).alloc _).keep hb5
                  have hbr := HB2.out
                  go_wp2_with fail
                  refine (ellin_v _ _ _ _ _ _ _ _ HH.out _).mono ?_; rintro e w6 ⟨rfl, hb6⟩; have z6 := hb6.size; (try simp at z6)
                  go_wp2_with fail
                  go_roundw
                  case rel =>
                    refine ⟨k + 1, t + J, u + U, v + Z, false, by omega, by omega, by go_num, rfl, rfl, by omega, HI.out, ?_, ?_, ?_⟩
                    · exact ((E5.alloc _).keep hb6)
                    · exact Blk.of_eq ((P5.alloc _).keep hb6) (show _ = _ from by first | (rw [← hPU, ← hQV]; done) | (rw [← hPU, ← hQV]; simp [Int.add_assoc]))
                    · exact (show Below _ _ _ from (by repeat (first | with_reducible exact Below.refl _ _ | with_reducible exact Below_of_hid (by assumption) | with_reducible refine Below.drew ?_ | with_reducible refine below_drewN ?_ _ | (with_reducible refine Below_putRow ?_ ?hB _ _; case hB => (first | omega | (simp; done) | (simp; omega))) | (with_reducible refine Below.alloc ?_ ?hB _; case hB => (first | omega | (simp; done) | (simp; omega))) | (with_reducible refine Below.setCell ?_ ?hB _; case hB => (first | omega | (simp; done) | (simp; omega))) | (with_reducible refine Below.trans ?_ (Below.mono (by assumption) ?hB); case hB => (first | omega | (simp; done) | (simp; omega))))))
                  case measure => simp [intOf]; omega
                · have hk9 := hk40
                  go_wp2_with fail
                  refine (at_v _ _ _ _ _ _ _ _ _ _ _ _ _ _ _ HG.out _).mono ?_; rintro e w5 ⟨rfl, hb5⟩; have z_w5 := hb5.size; (try simp at z_w5); obtain ⟨y_w5_0_0, c_w5_0_0, f_w5_0_0, r_w5_0_0, t_w5_0_0, p_w5_0_0⟩ := bk hb5 (w.heap.size) (by first | omega | (simp; done) | (simp; omega) | fail); obtain ⟨y_w5_0_1, c_w5_0_1, f_w5_0_1, r_w5_0_1, t_w5_0_1, p_w5_0_1⟩ := bk hb5 (w.heap.size + 1) (by first | omega | (simp; done) | (simp; omega) | fail)
                  have E5 := (((BE2.out.setCell_other (a := ⟨w.heap.size + 1, 0, none⟩) (by simp) _).setCell_other (a := ⟨w.heap.size + 1, 1, none⟩) (by simp) _).alloc _).keep hb5
                  have P5 := (((BP2.out.setCell_same 0 _).setCell_same 1 _).alloc _).keep hb5
                  have hbr := HB2.out
                  go_wp2_with fail
                  go_roundw
                  case rel =>
                    refine ⟨k + 1, t + J, u + U, v + Z, false, by omega, by omega, by go_num, rfl, rfl, by omega, HI.out, ?_, ?_, ?_⟩
                    · exact (E5.alloc _)
                    · exact Blk.of_eq (P5.alloc _) (show _ = _ from by first | (rw [← hPU, ← hQV]; done) | (rw [← hPU, ← hQV]; simp [Int.add_assoc]))
                    · exact (show Below _ _ _ from (by repeat (first | with_reducible exact Below.refl _ _ | with_reducible exact Below_of_hid (by assumption) | with_reducible refine Below.drew ?_ | with_reducible refine below_drewN ?_ _ | (with_reducible refine Below_putRow ?_ ?hB _ _; case hB => (first | omega | (simp; done) | (simp; omega))) | (with_reducible refine Below.alloc ?_ ?hB _; case hB => (first | omega | (simp; done) | (simp; omega))) | (with_reducible refine Below.setCell ?_ ?hB _; case hB => (first | omega | (simp; done) | (simp; omega))) | (with_reducible refine Below.trans ?_ (Below.mono (by assumption) ?hB); case hB => (first | omega | (simp; done) | (simp; omega))))))
                  case measure => simp [intOf]; omega
              · have hm2 : SV < SU + SZ := by omega
                obtain ⟨⟨gx, gy, ga, gb, gd⟩, r, hg⟩ : ∃ o r, atE ⟨x, y, a, b, d⟩ (s + X) (t + J + Y) V S = (o, r) := ⟨_, _, rfl⟩
                have HG := Lib.hid hg
                have ways := inv_at hI2 HP.out ⟨V1, V2⟩ ⟨S1, S2⟩ ⟨s1, s2⟩ (by omega) ⟨X1, X2⟩ ⟨Y1, Y2⟩ hg
                rw [hPU, hQV] at ways
                have HI := Lib.hid hI2
                clear hg
                rcases ways with ⟨rfl, hh⟩ | rfl
                · have HH := Lib.hid hh
                  clear hh
                  go_wp2_with fail
                  refine (at_v _ _ _ _ _ _ _ _ _ _ _ _ _ _ _ HG.out _).mono ?_; rintro e w5 ⟨rfl, hb5⟩; have z_w5 := hb5.size; (try simp at z_w5); obtain ⟨y_w5_0_0, c_w5_0_0, f_w5_0_0, r_w5_0_0, t_w5_0_0, p_w5_0_0⟩ := bk hb5 (w.heap.size) (by first | omega | (simp; done) | (simp; omega) | fail); obtain ⟨y_w5_0_1, c_w5_0_1, f_w5_0_1, r_w5_0_1, t_w5_0_1, p_w5_0_1⟩ := bk hb5 (w.heap.size + 1) (by first | omega | (simp; done) | (simp; omega) | fail)
                  have E5 := (BE2.out.alloc _).keep hb5
                  have P5 := (BP2.out.alloc _).keep hb5
                  have hbr := HB2.out
                  go_wp2_with fail
                  refine (ellin_v _ _ _ _ _ _ _ _ HH.out _).mono ?_; rintro e w6 ⟨rfl, hb6⟩; have z6 := hb6.size; (try simp at z6)
                  go_wp2_with fail
                  go_roundw
                  case rel =>
                    refine ⟨k + 1, t + J, u, v, true, by omega, by omega, by go_num, rfl, rfl, by omega, HI.out, ?_, ?_, ?_⟩
                    · exact ((E5.alloc _).keep hb6)
                    · exact Blk.of_eq ((P5.alloc _).keep hb6) (show _ = _ from by first | (rw [← hPU, ← hQV]; done) | (rw [← hPU, ← hQV]; simp [Int.add_assoc]))
                    · exact (show Below _ _ _ from (by repeat (first | with_reducible exact Below.refl _ _ | with_reducible exact Below_of_hid (by assumption) | with_reducible refine Below.drew ?_ | with_reducible refine below_drewN ?_ _ | (with_reducible refine Below_putRow ?_ ?hB _ _; case hB => (first | omega | (simp; done) | (simp; omega))) | (with_reducible refine Below.alloc ?_ ?hB _; case hB => (first | omega | (simp; done) | (simp; omega))) | (with_reducible refine Below.setCell ?_ ?hB _; case hB => (first | omega | (simp; done) | (simp; omega))) | (with_reducible refine Below.trans ?_ (Below.mono (by assumption) ?hB); case hB => (first | omega | (simp; done) | (simp; omega))))))
                  case measure => simp [intOf]; omega
                · have hk9 := hk40
                  go_wp2_with fail
                  refine (at_v _ _ _ _ _ _ _ _ _ _ _ _ _ _ _ HG.out _).mono ?_; rintro e w5 ⟨rfl, hb5⟩; have z_w5 := hb5.size; (try simp at z_w5); obtain ⟨y_w5_0_0, c_w5_0_0, f_w5_0_0, r_w5_0_0, t_w5_0_0, p_w5_0_0⟩ := bk hb5 (w.heap.size) (by first | omega | (simp; done) | (simp; omega) | fail); obtain ⟨y_w5_0_1, c_w5_0_1, f_w5_0_1, r_w5_0_1, t_w5_0_1, p_w5_0_1⟩ := bk hb5 (w.heap.size + 1) (by first | omega | (simp; done) | (simp; omega) | fail)
                  have E5 := (BE2.out.alloc _).keep hb5
                  have P5 := (BP2.out.alloc _).keep hb5
                  have hbr := HB2.out
                  go_wp2_with fail
                  go_roundw
                  case rel =>
                    refine ⟨k + 1, t + J, u, v, true, by omega, by omega, by go_num, rfl, rfl, by omega, HI.out, ?_, ?_, ?_⟩
                    · exact (E5.alloc _)
                    · exact Blk.of_eq (P5.alloc _) (show _ = _ from by first | (rw [← hPU, ← hQV]; done) | (rw [← hPU, ← hQV]; simp [Int.add_assoc]))
                    · exact (show Below _ _ _ from (by repeat (first | with_reducible exact Below.refl _ _ | with_reducible exact Below_of_hid (by assumption) | with_reducible refine Below.drew ?_ | with_reducible refine below_drewN ?_ _ | (with_reducible refine Below_putRow ?_ ?hB _ _; case hB => (first | omega | (simp; done) | (simp; omega))) | (with_reducible refine Below.alloc ?_ ?hB _; case hB => (first | omega | (simp; done) | (simp; omega))) | (with_reducible refine Below.setCell ?_ ?hB _; case hB => (first | omega | (simp; done) | (simp; omega))) | (with_reducible refine Below.trans ?_ (Below.mono (by assumption) ?hB); case hB => (first | omega | (simp; done) | (simp; omega))))))
                  case measure => simp [intOf]; omega
          · have k4 : ¬ (k : Int) < len' := by omega
            cases f with
            | false =>
              obtain ⟨⟨gx, gy, ga, gb, gd⟩, r, hg⟩ : ∃ o r, atE ⟨x, y, a, b, d⟩ (s + X) (t + Y) V S = (o, r) := ⟨_, _, rfl⟩
              have HG := Lib.hid hg
              have ways := inv_at hI HP.out ⟨V1, V2⟩ ⟨S1, S2⟩ ⟨s1, s2⟩ (by omega) ⟨X1, X2⟩ ⟨Y1, Y2⟩ hg
              rw [hPU, hQV] at ways
              have HI := Lib.hid hI
              clear hg
              rcases ways with ⟨rfl, hh⟩ | rfl
              · have HH := Lib.hid hh
                clear hh
                go_wp2_with fail
                refine (at_v _ _ _ _ _ _ _ _ _ _ _ _ _ _ _ HG.out _).mono ?_; rintro e w5 ⟨rfl, hb5⟩; have z_w5 := hb5.size; (try simp at z_w5); obtain ⟨y_w5_0_0, c_w5_0_0, f_w5_0_0, r_w5_0_0, t_w5_0_0, p_w5_0_0⟩ := bk hb5 (w.heap.size) (by first | omega | (simp; done) | (simp; omega) | fail); obtain ⟨y_w5_0_1, c_w5_0_1, f_w5_0_1, r_w5_0_1, t_w5_0_1, p_w5_0_1⟩ := bk hb5 (w.heap.size + 1) (by first | omega | (simp; done) | (simp; omega) | fail)
                have E5 := (BE2.out.alloc _).keep hb5
                have P5 := (BP2.out.alloc _).keep hb5
                have hbr := HB2.out
                go_wp2_with fail
                refine (ellin_v _ _ _ _ _ _ _ _ HH.out _).mono ?_; rintro e w6 ⟨rfl, hb6⟩; have z6 := hb6.size; (try simp at z6)
                go_wp2_with fail
                go_roundw
                case rel =>
                  refine ⟨k + 1, t, u, v, false, by omega, by omega, by go_num, rfl, rfl, by omega, HI.out, ?_, ?_, ?_⟩
                  · exact ((E5.alloc _).keep hb6)
                  · exact Blk.of_eq ((P5.alloc _).keep hb6) (show _ = _ from by first | (rw [← hPU, ← hQV]; done) | (rw [← hPU, ← hQV]; simp [Int.add_assoc]))
                  · exact (show Below _ _ _ from (by repeat (first | with_reducible exact Below.refl _ _ | with_reducible exact Below_of_hid (by assumption) | with_reducible refine Below.drew ?_ | with_reducible refine below_drewN ?_ _ | (with_reducible refine Below_putRow ?_ ?hB _ _; case hB => (first | omega | (simp; done) | (simp; omega))) | (with_reducible refine Below.alloc ?_ ?hB _; case hB => (first | omega | (simp; done) | (simp; omega))) | (with_reducible refine Below.setCell ?_ ?hB _; case hB => (first | omega | (simp; done) | (simp; omega))) | (with_reducible refine Below.trans ?_ (Below.mono (by assumption) ?hB); case hB => (first | omega | (simp; done) | (simp; omega))))))
                case measure => simp [intOf]; omega
              · have hk9 := hk40
                go_wp2_with fail
                refine (at_v _ _ _ _ _ _ _ _ _ _ _ _ _ _ _ HG.out _).mono ?_; rintro e w5 ⟨rfl, hb5⟩; have z_w5 := hb5.size; (try simp at z_w5); obtain ⟨y_w5_0_0, c_w5_0_0, f_w5_0_0, r_w5_0_0, t_w5_0_0, p_w5_0_0⟩ := bk hb5 (w.heap.size) (by first | omega | (simp; done) | (simp; omega) | fail); obtain ⟨y_w5_0_1, c_w5_0_1, f_w5_0_1, r_w5_0_1, t_w5_0_1, p_w5_0_1⟩ := bk hb5 (w.heap.size + 1) (by first | omega | (simp; done) | (simp; omega) | fail)
                have E5 := (BE2.out.alloc _).keep hb5
                have P5 := (BP2.out.alloc _).keep hb5
                have hbr := HB2.out
                go_wp2_with fail
                go_roundw
                case rel =>
                  refine ⟨k + 1, t, u, v, false, by omega, by omega, by go_num, rfl, rfl, by omega, HI.out, ?_, ?_, ?_⟩
                  · exact (E5.alloc _)
                  · exact Blk.of_eq (P5.alloc _) (show _ = _ from by first | (rw [← hPU, ← hQV]; done) | (rw [← hPU, ← hQV]; simp [Int.add_assoc]))
                  · exact (show Below _ _ _ from (by repeat (first | with_reducible exact Below.refl _ _ | with_reducible exact Below_of_hid (by assumption) | with_reducible refine Below.drew ?_ | with_reducible refine below_drewN ?_ _ | (with_reducible refine Below_putRow ?_ ?hB _ _; case hB => (first | omega | (simp; done) | (simp; omega))) | (with_reducible refine Below.alloc ?_ ?hB _; case hB => (first | omega | (simp; done) | (simp; omega))) | (with_reducible refine Below.setCell ?_ ?hB _; case hB => (first | omega | (simp; done) | (simp; omega))) | (with_reducible refine Below.trans ?_ (Below.mono (by assumption) ?hB); case hB => (first | omega | (simp; done) | (simp; omega))))))
                case measure => simp [intOf]; omega
            | true =>
              by_cases hm : SU + SZ ≤ SV
              · have hI3 := inv_move V1 hI (show U * U + Z * Z ≤ V * V by omega)
                obtain ⟨⟨gx, gy, ga, gb, gd⟩, r, hg⟩ : ∃ o r, atE ⟨x, y, a, b, d⟩ (s + X) (t + Y) V S = (o, r) := ⟨_, _, rfl⟩
                have HG := Lib.hid hg
                have ways := inv_at hI3 HP.out ⟨V1, V2⟩ ⟨S1, S2⟩ ⟨s1, s2⟩ (by omega) ⟨X1, X2⟩ ⟨Y1, Y2⟩ hg
                rw [← Int.add_assoc, ← Int.add_assoc, hPU, hQV] at ways
                have HI := Lib.hid hI3
                clear hg
                rcases ways with ⟨rfl, hh⟩ | rfl
                · have HH := Lib.hid hh
                  clear hh
                  go_wp2_with fail
                  refine (at_v _ _ _ _ _ _ _ _ _ _ _ _ _ _ _ HG.out _).mono ?_; rintro e w5 ⟨rfl, hb5⟩; have z_w5 := hb5.size; (try simp at z_w5); obtain ⟨y_w5_0_0, c_w5_0_0, f_w5_0_0, r_w5_0_0, t_w5_0_0, p_w5_0_0⟩ := bk hb5 (w.heap.size) (by first | omega | (simp; done) | (simp; omega) | fail); obtain ⟨y_w5_0_1, c_w5_0_1, f_w5_0_1, r_w5_0_1, t_w5_0_1, p_w5_0_1⟩ := bk hb5 (w.heap.size + 1) (by first | omega | (simp; done) | (simp; omega) | fail)
                  have E5 := (((BE2.out.setCell_other (a := ⟨w.heap.size + 1, 0, none⟩) (by simp) _).setCell_other (a := ⟨w.heap.size + 1, 1, none⟩) (by simp) _).alloc _).keep hb5
                  have P5 := (((BP2.out.setCell_same 0 _).setCell_same 1 _).alloc _).keep hb5
                  have hbr := HB2.out
                  go_wp2_with fail
                  refine (ellin_v _ _ _ _ _ _ _ _ HH.out _).mono ?_; rintro e w6 ⟨rfl, hb6⟩; have z6 := hb6.size; (try simp at z6)
                  go_wp2_with fail
                  go_roundw
                  case rel =>
                    refine ⟨k + 1, t, u + U, v + Z, false, by omega, by omega, by go_num, rfl, rfl, by omega, HI.out, ?_, ?_, ?_⟩
                    · exact ((E5.alloc _).keep hb6)
                    · exact Blk.of_eq ((P5.alloc _).keep hb6) (show _ = _ from by first | (rw [← hPU, ← hQV]; done) | (rw [← hPU, ← hQV]; simp [Int.add_assoc]))
                    · exact (show Below _ _ _ from (by repeat (first | with_reducible exact Below.refl _ _ | with_reducible exact Below_of_hid (by assumption) | with_reducible refine Below.drew ?_ | with_reducible refine below_drewN ?_ _ | (with_reducible refine Below_putRow ?_ ?hB _ _; case hB => (first | omega | (simp; done) | (simp; omega))) | (with_reducible refine Below.alloc ?_ ?hB _; case hB => (first | omega | (simp; done) | (simp; omega))) | (with_reducible refine Below.setCell ?_ ?hB _; case hB => (first | omega | (simp; done) | (simp; omega))) | (with_reducible refine Below.trans ?_ (Below.mono (by assumption) ?hB); case hB => (first | omega | (simp; done) | (simp; omega))))))
                  case measure => simp [intOf]; omega
                · have hk9 := hk40
                  go_wp2_with fail
                  refine (at_v _ _ _ _ _ _ _ _ _ _ _ _ _ _ _ HG.out _).mono ?_; rintro e w5 ⟨rfl, hb5⟩; have z_w5 := hb5.size; (try simp at z_w5); obtain ⟨y_w5_0_0, c_w5_0_0, f_w5_0_0, r_w5_0_0, t_w5_0_0, p_w5_0_0⟩ := bk hb5 (w.heap.size) (by first | omega | (simp; done) | (simp; omega) | fail); obtain ⟨y_w5_0_1, c_w5_0_1, f_w5_0_1, r_w5_0_1, t_w5_0_1, p_w5_0_1⟩ := bk hb5 (w.heap.size + 1) (by first | omega | (simp; done) | (simp; omega) | fail)
                  have E5 := (((BE2.out.setCell_other (a := ⟨w.heap.size + 1, 0, none⟩) (by simp) _).setCell_other (a := ⟨w.heap.size + 1, 1, none⟩) (by simp) _).alloc _).keep hb5
                  have P5 := (((BP2.out.setCell_same 0 _).setCell_same 1 _).alloc _).keep hb5
                  have hbr := HB2.out
                  go_wp2_with fail
                  go_roundw
                  case rel =>
                    refine ⟨k + 1, t, u + U, v + Z, false, by omega, by omega, by go_num, rfl, rfl, by omega, HI.out, ?_, ?_, ?_⟩
                    · exact (E5.alloc _)
                    · exact Blk.of_eq (P5.alloc _) (show _ = _ from by first | (rw [← hPU, ← hQV]; done) | (rw [← hPU, ← hQV]; simp [Int.add_assoc]))
                    · exact (show Below _ _ _ from (by repeat (first | with_reducible exact Below.refl _ _ | with_reducible exact Below_of_hid (by assumption) | with_reducible refine Below.drew ?_ | with_reducible refine below_drewN ?_ _ | (with_reducible refine Below_putRow ?_ ?hB _ _; case hB => (first | omega | (simp; done) | (simp; omega))) | (with_reducible refine Below.alloc ?_ ?hB _; case hB => (first | omega | (simp; done) | (simp; omega))) | (with_reducible refine Below.setCell ?_ ?hB _; case hB => (first | omega | (simp; done) | (simp; omega))) | (with_reducible refine Below.trans ?_ (Below.mono (by assumption) ?hB); case hB => (first | omega | (simp; done) | (simp; omega))))))
                  case measure => simp [intOf]; omega
              · have hm2 : SV < SU + SZ := by omega
                obtain ⟨⟨gx, gy, ga, gb, gd⟩, r, hg⟩ : ∃ o r, atE ⟨x, y, a, b, d⟩ (s + X) (t + Y) V S = (o, r) := ⟨_, _, rfl⟩
                have HG := Lib.hid hg
                have ways := inv_at hI HP.out ⟨V1, V2⟩ ⟨S1, S2⟩ ⟨s1, s2⟩ (by omega) ⟨X1, X2⟩ ⟨Y1, Y2⟩ hg
                rw [hPU, hQV] at ways
                have HI := Lib.hid hI
                clear hg
                rcases ways with ⟨rfl, hh⟩ | rfl
                · have HH := Lib.hid hh
                  clear hh
                  go_wp2_with fail
                  refine (at_v _ _ _ _ _ _ _ _ _ _ _ _ _ _ _ HG.out _).mono ?_; rintro e w5 ⟨rfl, hb5⟩; have z_w5 := hb5.size; (try simp at z_w5); obtain ⟨y_w5_0_0, c_w5_0_0, f_w5_0_0, r_w5_0_0, t_w5_0_0, p_w5_0_0⟩ := bk hb5 (w.heap.size) (by first | omega | (simp; done) | (simp; omega) | fail); obtain ⟨y_w5_0_1, c_w5_0_1, f_w5_0_1, r_w5_0_1, t_w5_0_1, p_w5_0_1⟩ := bk hb5 (w.heap.size + 1) (by first | omega | (simp; done) | (simp; omega) | fail)
                  have E5 := (BE2.out.alloc _).keep hb5
                  have P5 := (BP2.out.alloc _).keep hb5
                  have hbr := HB2.out
                  go_wp2_with fail
                  refine (ellin_v _ _ _ _ _ _ _ _ HH.out _).mono ?_; rintro e w6 ⟨rfl, hb6⟩; have z6 := hb6.size; (try simp at z6)
                  go_wp2_with fail
                  go_roundw
                  case rel =>
                    refine ⟨k + 1, t, u, v, true, by omega, by omega, by go_num, rfl, rfl, by omega, HI.out, ?_, ?_, ?_⟩
                    · exact ((E5.alloc _).keep hb6)
                    · exact Blk.of_eq ((P5.alloc _).keep hb6) (show _ = _ from by first | (rw [← hPU, ← hQV]; done) | (rw [← hPU, ← hQV]; simp [Int.add_assoc]))
                    · exact (show Below _ _ _ from (by repeat (first | with_reducible exact Below.refl _ _ | with_reducible exact Below_of_hid (by assumption) | with_reducible refine Below.drew ?_ | with_reducible refine below_drewN ?_ _ | (with_reducible refine Below_putRow ?_ ?hB _ _; case hB => (first | omega | (simp; done) | (simp; omega))) | (with_reducible refine Below.alloc ?_ ?hB _; case hB => (first | omega | (simp; done) | (simp; omega))) | (with_reducible refine Below.setCell ?_ ?hB _; case hB => (first | omega | (simp; done) | (simp; omega))) | (with_reducible refine Below.trans ?_ (Below.mono (by assumption) ?hB); case hB => (first | omega | (simp; done) | (simp; omega))))))
                  case measure => simp [intOf]; omega
                · have hk9 := hk40
                  go_wp2_with fail
                  refine (at_v _ _ _ _ _ _ _ _ _ _ _ _ _ _ _ HG.out _).mono ?_; rintro e w5 ⟨rfl, hb5⟩; have z_w5 := hb5.size; (try simp at z_w5); obtain ⟨y_w5_0_0, c_w5_0_0, f_w5_0_0, r_w5_0_0, t_w5_0_0, p_w5_0_0⟩ := bk hb5 (w.heap.size) (by first | omega | (simp; done) | (simp; omega) | fail); obtain ⟨y_w5_0_1, c_w5_0_1, f_w5_0_1, r_w5_0_1, t_w5_0_1, p_w5_0_1⟩ := bk hb5 (w.heap.size + 1) (by first | omega | (simp; done) | (simp; omega) | fail)
                  have E5 := (BE2.out.alloc _).keep hb5
                  have P5 := (BP2.out.alloc _).keep hb5
                  have hbr := HB2.out
                  go_wp2_with fail
                  go_roundw
                  case rel =>
                    refine ⟨k + 1, t, u, v, true, by omega, by omega, by go_num, rfl, rfl, by omega, HI.out, ?_, ?_, ?_⟩
                    · exact (E5.alloc _)
                    · exact Blk.of_eq (P5.alloc _) (show _ = _ from by first | (rw [← hPU, ← hQV]; done) | (rw [← hPU, ← hQV]; simp [Int.add_assoc]))
                    · exact (show Below _ _ _ from (by repeat (first | with_reducible exact Below.refl _ _ | with_reducible exact Below_of_hid (by assumption) | with_reducible refine Below.drew ?_ | with_reducible refine below_drewN ?_ _ | (with_reducible refine Below_putRow ?_ ?hB _ _; case hB => (first | omega | (simp; done) | (simp; omega))) | (with_reducible refine Below.alloc ?_ ?hB _; case hB => (first | omega | (simp; done) | (simp; omega))) | (with_reducible refine Below.setCell ?_ ?hB _; case hB => (first | omega | (simp; done) | (simp; omega))) | (with_reducible refine Below.trans ?_ (Below.mono (by assumption) ?hB); case hB => (first | omega | (simp; done) | (simp; omega))))))
                  case measure => simp [intOf]; omega
        · have k3 : (40 : Int) ≤ k := by omega
          have hbr := HB2.out
          have s5 := hbr.size
          obtain ⟨y1, c1, f1, -⟩ := bk_facts BE2.out
          obtain ⟨y2, c2, f2, -⟩ := bk_facts BP2.out
          go_wp2_with fail
          refine (awake19_c _).mono ?_; rintro e w6 ⟨rfl, hb6⟩; have z6 := hb6.size; (try simp at z6)
          go_wp2
          go_ret
          exact ⟨rfl, (by repeat (first | with_reducible exact Below.refl _ _ | with_reducible exact Below_of_hid (by assumption) | with_reducible refine Below.drew ?_ | with_reducible refine below_drewN ?_ _ | (with_reducible refine Below_putRow ?_ ?hB _ _; case hB => (first | omega | (simp; done) | (simp; omega))) | (with_reducible refine Below.alloc ?_ ?hB _; case hB => (first | omega | (simp; done) | (simp; omega))) | (with_reducible refine Below.setCell ?_ ?hB _; case hB => (first | omega | (simp; done) | (simp; omega))) | (with_reducible refine Below.trans ?_ (Below.mono (by assumption) ?hB); case hB => (first | omega | (simp; done) | (simp; omega)))))⟩
      · have k1 : ¬ (k : Int) < len := by omega
        have hbr := HB2.out
        have s5 := hbr.size
        obtain ⟨y1, c1, f1, -⟩ := bk_facts BE2.out
        obtain ⟨y2, c2, f2, -⟩ := bk_facts BP2.out
        go_wp2_with fail
        refine (awake19_c _).mono ?_; rintro e w6 ⟨rfl, hb6⟩; have z6 := hb6.size; (try simp at z6)
        go_wp2
        go_ret
        exact ⟨rfl, (by repeat (first | with_reducible exact Below.refl _ _ | with_reducible exact Below_of_hid (by assumption) | with_reducible refine Below.drew ?_ | with_reducible refine below_drewN ?_ _ | (with_reducible refine Below_putRow ?_ ?hB _ _; case hB => (first | omega | (simp; done) | (simp; omega))) | (with_reducible refine Below.alloc ?_ ?hB _; case hB => (first | omega | (simp; done) | (simp; omega))) | (with_reducible refine Below.setCell ?_ ?hB _; case hB => (first | omega | (simp; done) | (simp; omega))) | (with_reducible refine Below.trans ?_ (Below.mono (by assumption) ?hB); case hB => (first | omega | (simp; done) | (simp; omega)))))⟩
end Go.Proofs.Ytjfphfnfbgmlfaa
