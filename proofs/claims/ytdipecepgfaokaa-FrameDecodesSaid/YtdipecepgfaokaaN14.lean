/- Decode, whole; the plain law of frames: what is encoded is decoded. -/
import Derived.Test.YtdipecepgfaokaaN12
import Derived.Test.YtdipecepgfaokaaN13
import Derived.Test.YtdipecepgfaokaaN13b
namespace Go.Proofs.Ytdipecepgfaokaa
set_option linter.unusedSimpArgs false
set_option linter.unusedVariables false
open Go.RowKit

theorem decode_c (v : Value) (l : List Nat) (w : World) (h : RdB w v l) :
    Calls Try.prog 14 #[v] w fun e w' => e = .returned (.tuple #[frV (decE l).1, .int .i64 (decE l).2]) ∧ Below w.heap.size w w' := by
  unfold decE
  by_cases h1 : l.length < 80
  · rw [if_pos h1]; exact decode_short v l w h h1
  rw [if_neg h1]
  by_cases h2 : 80 < l.length
  · rw [if_pos (.inl h2)]; exact decode_long v l w h h2
  by_cases h3 : l.take 4 = [97, 108, 105, 49]
  · rw [if_neg (by rintro (h | h); exact h2 h; exact h h3)]
    by_cases h4 : nAt l 76 4 = crc (l.take 76)
    · rw [if_neg (fun hn => hn h4)]
      cases hm : mayF (frL l) with
      | true => rw [if_pos rfl]; exact decode_t v l w h (by omega) h3 h4 hm
      | false => rw [if_neg (by decide)]; exact decode_n v l w h (by omega) h3 h4 hm
    · rw [if_pos h4]; exact decode_sum v l w h (by omega) h3 h4
  · rw [if_pos (.inr h3)]; exact decode_magic v l w h (by omega) h3
theorem decode_v (v : Value) (l : List Nat) (f : FrD) (n : Int) (he : decE l = (f, n)) (w : World) (h : RdB w v l) :
    Calls Try.prog 14 #[v] w fun e w' => e = .returned (.tuple #[frV f, .int .i64 n]) ∧ Below w.heap.size w w' := by
  have := decode_c v l w h
  rw [he] at this; exact this
/-- What a frame that may be is, in ranges. -/
structure FrR (f : FrD) : Prop where
  kind : 1 ≤ f.kind ∧ f.kind ≤ 7
  src : 0 ≤ f.src ∧ f.src < 64
  boot : 0 ≤ f.boot ∧ f.boot ≤ 65535
  seq : 0 ≤ f.seq ∧ f.seq ≤ 65535
  stamp : 0 ≤ f.stamp ∧ f.stamp ≤ 1000000
  dst : 0 ≤ f.dst ∧ f.dst < 64
  t1 : 0 ≤ f.t1 ∧ f.t1 ≤ 70368744177664
  t2 : 0 ≤ f.t2 ∧ f.t2 ≤ 70368744177664
  who : 0 ≤ f.who ∧ f.who < 64
  when : 0 ≤ f.when ∧ f.when ≤ 70368744177664
  x : -4194304 ≤ f.x ∧ f.x ≤ 4194304
  y : -4194304 ≤ f.y ∧ f.y ≤ 4194304
  a : 0 ≤ f.a ∧ f.a ≤ 70368744177664
  b : -70368744177664 ≤ f.b ∧ f.b ≤ 70368744177664
  d : 0 ≤ f.d ∧ f.d ≤ 70368744177664
theorem nodeB_iff (n : Int) : nodeB n = true ↔ 0 ≤ n ∧ n < 64 := by unfold nodeB; simp
theorem inFB_iff (n m : Int) : inFB n m = true ↔ 0 ≤ n ∧ n ≤ m := by unfold inFB; simp
theorem frr_of_may (f : FrD) (h : mayF f = true) : FrR f := by
  unfold mayF at h
  simp only [Bool.and_eq_true, nodeB_iff, inFB_iff, decide_eq_true_eq] at h
  obtain ⟨h1, h2, h3, h4, h5, hd, ht1, ht2, hwh, hwn, hx, hy, ha, hb, hdd⟩ := h
  unfold restF at h1 hd ht1 ht2 hwh hwn hx hy ha hb hdd
  have el : f.el.may = true → (-4194304 ≤ f.x ∧ f.x ≤ 4194304 ∧ -4194304 ≤ f.y ∧ f.y ≤ 4194304) ∧ (0 ≤ f.a ∧ f.a ≤ 70368744177664 ∧ 0 ≤ f.d ∧ f.d ≤ 70368744177664 ∧ -70368744177664 ≤ f.b ∧ f.b ≤ 70368744177664) := by
    intro h
    obtain ⟨p, ⟨q1, q2, q3, q4, q5, q6⟩, -⟩ := (El.may_iff _).1 h
    exact ⟨p, by show 0 ≤ f.el.a; omega, q2, by show 0 ≤ f.el.d; omega, q4, q5, q6⟩
  by_cases k1 : f.kind = 1 ∨ f.kind = 7
  · rw [if_pos k1] at hd ht1 ht2 hwh hwn hx hy ha hb hdd
    simp only at hd ht1 ht2 hwh hwn hx hy ha hb hdd
    constructor <;> omega
  rw [if_neg k1] at h1 hd ht1 ht2 hwh hwn hx hy ha hb hdd
  by_cases k2 : f.kind = 2
  · rw [if_pos k2] at h1 hd ht1 ht2 hwh hwn hx hy ha hb hdd
    simp only [Bool.and_eq_true, nodeB_iff, inFB_iff, decide_eq_true_eq] at h1 hd ht1 ht2 hwh hwn hx hy ha hb hdd
    constructor <;> omega
  rw [if_neg k2] at h1 hd ht1 ht2 hwh hwn hx hy ha hb hdd
  by_cases k3 : f.kind = 3
  · rw [if_pos k3] at h1 hd ht1 ht2 hwh hwn hx hy ha hb hdd
    simp only [Bool.and_eq_true, nodeB_iff, inFB_iff, decide_eq_true_eq] at h1 hd ht1 ht2 hwh hwn hx hy ha hb hdd
    constructor <;> omega
  rw [if_neg k3] at h1 hd ht1 ht2 hwh hwn hx hy ha hb hdd
  by_cases k4 : f.kind = 4
  · rw [if_pos k4] at h1 hd ht1 ht2 hwh hwn hx hy ha hb hdd
    simp only [Bool.and_eq_true, nodeB_iff, inFB_iff, decide_eq_true_eq] at h1 hd ht1 ht2 hwh hwn hx hy ha hb hdd
    constructor <;> omega
  rw [if_neg k4] at h1 hd ht1 ht2 hwh hwn hx hy ha hb hdd
  by_cases k5 : f.kind = 5
  · rw [if_pos k5] at h1 hd ht1 ht2 hwh hwn hx hy ha hb hdd
    simp only [Bool.and_eq_true, nodeB_iff, inFB_iff, decide_eq_true_eq] at h1 hd ht1 ht2 hwh hwn hx hy ha hb hdd
    have := el h1
    constructor <;> omega
  rw [if_neg k5] at h1 hd ht1 ht2 hwh hwn hx hy ha hb hdd
  by_cases k6 : f.kind = 6
  · rw [if_pos k6] at h1 hd ht1 ht2 hwh hwn hx hy ha hb hdd
    simp only [Bool.and_eq_true, nodeB_iff, inFB_iff, decide_eq_true_eq] at h1 hd ht1 ht2 hwh hwn hx hy ha hb hdd
    have := el h1.2.2.2
    constructor <;> omega
  rw [if_neg k6] at h1
  cases h1
theorem nb_inj : ∀ (l m : List Nat), Byt l → Byt m → l.length = m.length → nb l = nb m → l = m := by
  intro l
  induction l with
  | nil => intro m _ _ h _; cases m with | nil => rfl | cons _ _ => simp at h
  | cons c l ih =>
    intro m hl hm hlen h
    cases m with
    | nil => simp at hlen
    | cons d m =>
      have hlen' : l.length = m.length := by simpa using hlen
      have hl' : Byt l := fun x hx => hl x (List.mem_cons_of_mem _ hx)
      have hm' : Byt m := fun x hx => hm x (List.mem_cons_of_mem _ hx)
      have k1 := nb_lt l hl'
      have k2 := nb_lt m hm'
      rw [nb_cons, nb_cons, ← hlen'] at h
      rw [← hlen'] at k2
      generalize 256 ^ l.length = P at *
      have hcd : c = d := by
        rcases Nat.lt_trichotomy c d with hh | hh | hh
        · have : (c + 1) * P ≤ d * P := Nat.mul_le_mul_right _ hh
          rw [Nat.add_mul] at this; omega
        · exact hh
        · have : (d + 1) * P ≤ c * P := Nat.mul_le_mul_right _ hh
          rw [Nat.add_mul] at this; omega
      subst hcd
      rw [ih m hl' hm' hlen' (by omega)]
theorem be1 (n : Int) : be 1 n = [(n % 256).toNat] := by
  show [((n / ((256 ^ 0 : Nat) : Int)) % 256).toNat] = _
  rw [show ((256 ^ 0 : Nat) : Int) = 1 from rfl, Int.ediv_one]
/-- Bytes at a place. -/
theorem at_mid (p q m : List Nat) (off wd : Nat) (hp : p.length = off) (hm : m.length = wd) : nAt (p ++ (m ++ q)) off wd = nb m := by
  unfold nAt
  rw [← hp, List.drop_left, ← hm, List.take_left]
theorem wrap64_id (n m : Int) (h : m = n % 18446744073709551616) (h1 : -9223372036854775808 ≤ n) (h2 : n < 9223372036854775808) : wrap64 m = n := by subst h; unfold wrap64; omega
theorem wrap64_lo (n m M : Int) (h : m = n % M) (h1 : 0 ≤ n) (h2 : n < M) (hM : M ≤ 18446744073709551616) (h3 : n < 9223372036854775808) : wrap64 m = n := by
  subst h; rw [Int.emod_eq_of_lt h1 h2]; unfold wrap64; omega
theorem wrap32_id (n m : Int) (h : m = n % 4294967296) (h1 : -2147483648 ≤ n) (h2 : n < 2147483648) : wrap32 m = n := by subst h; unfold wrap32; omega
theorem body_eq (f : FrD) : bodyL f = [97, 108, 105, 49] ++ (be 1 f.kind ++ (be 1 f.src ++ (be 1 f.dst ++ (be 1 f.who ++ (be 2 f.boot ++ (be 2 f.seq ++ (be 8 f.stamp ++ (be 8 f.t1 ++ (be 8 f.t2 ++ (be 8 f.when ++ (be 4 f.x ++ (be 4 f.y ++ (be 8 f.a ++ (be 8 f.b ++ be 8 f.d)))))))))))))) := by
  unfold bodyL fl
  simp [List.flatMap_cons]
theorem body_len (f : FrD) : (bodyL f).length = 76 := by
  rw [body_eq]; simp only [List.length_append, be_length, List.length_cons, List.length_nil]
theorem body_byt (f : FrD) : Byt (bodyL f) := by
  rw [body_eq]
  repeat' (refine byt_append ?_ ?_)
  all_goals first | exact be_byt _ _ | (intro c hc; simp at hc; omega)
theorem enc_len (f : FrD) : (encL f).length = 80 := by unfold encL; rw [List.length_append, body_len, be_length]
theorem enc_byt (f : FrD) : Byt (encL f) := byt_append (body_byt f) (be_byt _ _)
theorem enc_body (f : FrD) : (encL f).take 76 = bodyL f := by unfold encL; rw [← body_len f, List.take_left]
theorem enc_mark (f : FrD) : (encL f).take 4 = [97, 108, 105, 49] := by unfold encL; rw [body_eq]; rfl
theorem enc_sum (f : FrD) : nAt (encL f) 76 4 = crc ((encL f).take 76) := by
  rw [enc_body]
  have h := at_mid (bodyL f) [] (be 4 (crc (bodyL f))) 76 4 (body_len f) (be_length _ _)
  rw [List.append_nil] at h
  unfold encL
  rw [h]
  have := nb_be 4 (crc (bodyL f))
  have hl := crc_lt (bodyL f)
  rw [show ((256 ^ 4 : Nat) : Int) = 4294967296 from rfl] at this
  omega
theorem nAt_skip (m q : List Nat) (n off wd : Nat) (h : m.length = n) (hle : n ≤ off) : nAt (m ++ q) off wd = nAt q (off - n) wd := by
  unfold nAt
  rw [List.drop_append, List.drop_eq_nil_of_le (by omega), List.nil_append, h]
theorem nAt_be (w : Nat) (n : Int) (q : List Nat) (off wd : Nat) (hle : w ≤ off) : nAt (be w n ++ q) off wd = nAt q (off - w) wd := nAt_skip _ _ _ _ _ (be_length _ _) hle
theorem nAt_be0 (w : Nat) (n : Int) (q : List Nat) : nAt (be w n ++ q) 0 w = nb (be w n) := at_mid [] q (be w n) 0 w rfl (be_length _ _)
theorem nAt_mark (q : List Nat) (off wd : Nat) (hle : 4 ≤ off) : nAt ([97, 108, 105, 49] ++ q) off wd = nAt q (off - 4) wd := nAt_skip _ _ _ _ _ rfl hle
theorem frL_enc (f : FrD) (h : FrR f) : frL (encL f) = f := by
  obtain ⟨hk, hs, hbo, hsq, hst, hds, hta, htb, hwh, hwn, hx, hy, ha, hb, hd⟩ := h
  have E : encL f = [97, 108, 105, 49] ++ (be 1 f.kind ++ (be 1 f.src ++ (be 1 f.dst ++ (be 1 f.who ++ (be 2 f.boot ++ (be 2 f.seq ++ (be 8 f.stamp ++ (be 8 f.t1 ++ (be 8 f.t2 ++ (be 8 f.when ++ (be 4 f.x ++ (be 4 f.y ++ (be 8 f.a ++ (be 8 f.b ++ (be 8 f.d ++ be 4 (crc (bodyL f))))))))))))))))) := by
    unfold encL; rw [body_eq]; simp only [List.append_assoc]
  have P1 : ∀ n : Int, ((nb (be 1 n) : Nat) : Int) = n % 256 := fun n => nb_be 1 n
  have P2 : ∀ n : Int, ((nb (be 2 n) : Nat) : Int) = n % 65536 := fun n => nb_be 2 n
  have P4 : ∀ n : Int, ((nb (be 4 n) : Nat) : Int) = n % 4294967296 := fun n => nb_be 4 n
  have P8 : ∀ n : Int, ((nb (be 8 n) : Nat) : Int) = n % 18446744073709551616 := fun n => nb_be 8 n
  have Nkind : nAt (encL f) 4 1 = nb (be 1 f.kind) := by rw [E]; simp (decide := true) only [nAt_mark, nAt_be, nAt_be0, Nat.reduceSub, Nat.sub_self]
  have Nsrc : nAt (encL f) 5 1 = nb (be 1 f.src) := by rw [E]; simp (decide := true) only [nAt_mark, nAt_be, nAt_be0, Nat.reduceSub, Nat.sub_self]
  have Ndst : nAt (encL f) 6 1 = nb (be 1 f.dst) := by rw [E]; simp (decide := true) only [nAt_mark, nAt_be, nAt_be0, Nat.reduceSub, Nat.sub_self]
  have Nwho : nAt (encL f) 7 1 = nb (be 1 f.who) := by rw [E]; simp (decide := true) only [nAt_mark, nAt_be, nAt_be0, Nat.reduceSub, Nat.sub_self]
  have Nboot : nAt (encL f) 8 2 = nb (be 2 f.boot) := by rw [E]; simp (decide := true) only [nAt_mark, nAt_be, nAt_be0, Nat.reduceSub, Nat.sub_self]
  have Nseq : nAt (encL f) 10 2 = nb (be 2 f.seq) := by rw [E]; simp (decide := true) only [nAt_mark, nAt_be, nAt_be0, Nat.reduceSub, Nat.sub_self]
  have Nstamp : nAt (encL f) 12 8 = nb (be 8 f.stamp) := by rw [E]; simp (decide := true) only [nAt_mark, nAt_be, nAt_be0, Nat.reduceSub, Nat.sub_self]
  have Nt1 : nAt (encL f) 20 8 = nb (be 8 f.t1) := by rw [E]; simp (decide := true) only [nAt_mark, nAt_be, nAt_be0, Nat.reduceSub, Nat.sub_self]
  have Nt2 : nAt (encL f) 28 8 = nb (be 8 f.t2) := by rw [E]; simp (decide := true) only [nAt_mark, nAt_be, nAt_be0, Nat.reduceSub, Nat.sub_self]
  have Nwhen : nAt (encL f) 36 8 = nb (be 8 f.when) := by rw [E]; simp (decide := true) only [nAt_mark, nAt_be, nAt_be0, Nat.reduceSub, Nat.sub_self]
  have Nx : nAt (encL f) 44 4 = nb (be 4 f.x) := by rw [E]; simp (decide := true) only [nAt_mark, nAt_be, nAt_be0, Nat.reduceSub, Nat.sub_self]
  have Ny : nAt (encL f) 48 4 = nb (be 4 f.y) := by rw [E]; simp (decide := true) only [nAt_mark, nAt_be, nAt_be0, Nat.reduceSub, Nat.sub_self]
  have Na : nAt (encL f) 52 8 = nb (be 8 f.a) := by rw [E]; simp (decide := true) only [nAt_mark, nAt_be, nAt_be0, Nat.reduceSub, Nat.sub_self]
  have Nb : nAt (encL f) 60 8 = nb (be 8 f.b) := by rw [E]; simp (decide := true) only [nAt_mark, nAt_be, nAt_be0, Nat.reduceSub, Nat.sub_self]
  have Nd : nAt (encL f) 68 8 = nb (be 8 f.d) := by rw [E]; simp (decide := true) only [nAt_mark, nAt_be, nAt_be0, Nat.reduceSub, Nat.sub_self]
  unfold frL
  rw [Nkind, Nsrc, Ndst, Nwho, Nboot, Nseq, Nstamp, Nt1, Nt2, Nwhen, Nx, Ny, Na, Nb, Nd]
  obtain ⟨k, s, bo, sq, st, ds, ta, tb, wh, wn, x, y, a, b, d⟩ := f
  simp only at hk hs hbo hsq hst hds hta htb hwh hwn hx hy ha hb hd ⊢
  rw [FrD.mk.injEq]
  refine ⟨wrap64_lo _ _ 256 (P1 _) (by omega) (by omega) (by omega) (by omega), wrap64_lo _ _ 256 (P1 _) (by omega) (by omega) (by omega) (by omega), wrap64_lo _ _ 65536 (P2 _) (by omega) (by omega) (by omega) (by omega), wrap64_lo _ _ 65536 (P2 _) (by omega) (by omega) (by omega) (by omega), wrap64_id _ _ (P8 _) (by omega) (by omega), wrap64_lo _ _ 256 (P1 _) (by omega) (by omega) (by omega) (by omega), wrap64_id _ _ (P8 _) (by omega) (by omega), wrap64_id _ _ (P8 _) (by omega) (by omega), wrap64_lo _ _ 256 (P1 _) (by omega) (by omega) (by omega) (by omega), wrap64_id _ _ (P8 _) (by omega) (by omega), wrap32_id _ _ (P4 _) (by omega) (by omega), wrap32_id _ _ (P4 _) (by omega) (by omega), wrap64_id _ _ (P8 _) (by omega) (by omega), wrap64_id _ _ (P8 _) (by omega) (by omega), wrap64_id _ _ (P8 _) (by omega) (by omega)⟩
theorem dec_enc (f : FrD) (h : mayF f = true) : decE (encL f) = (f, 0) := by
  have hf := frL_enc f (frr_of_may f h)
  unfold decE
  rw [if_neg (by rw [enc_len]; omega), if_neg (by rw [enc_len]; rintro (h | h); omega; exact h (enc_mark f)), if_neg (fun hn => hn (enc_sum f)), hf, if_pos h]
theorem enc_inj (f g : FrD) (hf : mayF f = true) (hg : mayF g = true) (h : encL f = encL g) : f = g := by
  have h1 := dec_enc f hf
  rw [h, dec_enc g hg] at h1
  exact (Prod.mk.inj h1).1.symm
/-- Bytes that differ from a frame's within four adjacent places ahead of the sum are none. -/
theorem dec_burst (f : FrD) (p c d q : List Nat) (he : encL f = p ++ c ++ q) (hd : Byt d) (hlen : c.length = d.length) (h4 : c.length ≤ 4) (hp : p.length + c.length ≤ 76) (hne : c ≠ d) : (decE (p ++ d ++ q)).2 ≠ 0 := by
  have hby : Byt (p ++ c ++ q) := by rw [← he]; exact enc_byt f
  have hpc : Byt (p ++ c) := fun z hz => hby z (List.mem_append_left _ hz)
  have hP : Byt p := fun z hz => hpc z (List.mem_append_left _ hz)
  have hC : Byt c := fun z hz => hpc z (List.mem_append_right _ hz)
  have hQ : Byt q := fun z hz => hby z (List.mem_append_right _ hz)
  have hl80 : (p ++ c ++ q).length = 80 := by rw [← he]; exact enc_len f
  simp only [List.length_append] at hl80
  have hq : ∀ e : List Nat, e.length = c.length → (p ++ e ++ q).take 76 = p ++ e ++ q.take (76 - (p.length + c.length)) := by
    intro e hel
    rw [List.take_append, List.take_of_length_le (by rw [List.length_append]; omega), List.length_append, hel]
  have hn : ∀ e : List Nat, e.length = c.length → nAt (p ++ e ++ q) 76 4 = nAt q (76 - (p.length + c.length)) 4 := fun e hel => nAt_skip _ _ _ _ _ (by rw [List.length_append, hel]) hp
  have hs := enc_sum f
  rw [he, hq c rfl, hn c rfl] at hs
  unfold decE
  rw [if_neg (by simp only [List.length_append]; omega)]
  split
  · decide
  · rw [if_pos]
    · decide
    · rw [hq d hlen.symm, hn d hlen.symm, hs]
      intro hcrc
      exact hne (crc_burst hP hC hd (byt_take hQ _) hlen h4 hcrc)
/-- A byte of the sum changed: none. -/
theorem dec_tail (f : FrD) (q : List Nat) (hq : Byt q) (hl : q.length = 4) (hne : q ≠ be 4 (crc (bodyL f))) : (decE (bodyL f ++ q)).2 ≠ 0 := by
  unfold decE
  rw [if_neg (by rw [List.length_append, body_len]; omega)]
  split
  · decide
  · rw [if_pos]
    · decide
    · intro h
      have h1 : nAt (bodyL f ++ q) 76 4 = nb q := by
        have := at_mid (bodyL f) [] q 76 4 (body_len f) hl
        rw [List.append_nil] at this; exact this
      have h2 : (bodyL f ++ q).take 76 = bodyL f := by rw [← body_len f, List.take_left]
      rw [h1, h2] at h
      apply hne
      refine nb_inj _ _ hq (be_byt _ _) (by rw [hl, be_length]) ?_
      have := nb_be 4 (crc (bodyL f))
      have hl := crc_lt (bodyL f)
      rw [show ((256 ^ 4 : Nat) : Int) = 4294967296 from rfl] at this
      omega
end Go.Proofs.Ytdipecepgfaokaa
