/- The walk of the document's get. The walk of the document's Decode where the bytes are no frame. The walk of the document's Decode: a frame. The walk of the document's Decode: a frame that may not be. The document's Decode, whole; slices of bytes cut and appended. -/
import Derived.Test.YtdipecepgfaokaaN14
import Derived.Test.YtdipecepgfaokaaBA
import Derived.Test.YtdipecepgfaokaaRB
import Derived.Test.YtdipecepgfaokaaN6g
import Derived.Test.YtdipecepgfaokaaRf
import Derived.Test.YtdipecepgfaokaaNF
import Derived.Test.YtdipecepgfaokaaN8
namespace Go.Proofs.Ytdipecepgfaokaa
set_option linter.unusedSimpArgs false
set_option linter.unusedVariables false
open Go.RowKit

theorem or_low_u64 (q c : Nat) (hq : q < 72057594037927936) (hc : c < 256) : bits .or .u64 ((q : Int) * 256) (c : Int) = ((q * 256 + c : Nat) : Int) := by
  have h := bits_or_u64_nat (256 * q) c (by omega) (by omega)
  rw [or_low8 q c hc] at h
  have e : ((256 * q : Nat) : Int) = (q : Int) * 256 := by omega
  rw [e] at h
  rw [h]
  omega
theorem nAt_take (l : List Nat) (off k : Nat) (h : off + k < l.length) : nAt l off (k + 1) = nAt l off k * 256 + l.getD (off + k) 0 := by
  unfold nAt
  rw [nb_take _ _ (by rw [List.length_drop]; omega), List.getD_eq_getElem?_getD, List.getElem?_drop, ← List.getD_eq_getElem?_getD]
theorem nAt_lt (l : List Nat) (hy : Byt l) (off k : Nat) : nAt l off k < 256 ^ k := by
  refine Nat.lt_of_lt_of_le (nb_lt _ (byt_take (byt_drop hy off) k)) (Nat.pow_le_pow_right (by decide) ?_)
  rw [List.length_take]; omega
set_option maxRecDepth 100000 in
set_option maxHeartbeats 2000000 in
theorem get_c (v : Value) (l : List Nat) (off wd : Nat) (h0 : 0 < wd) (h8 : wd ≤ 8) (hw : off + wd ≤ l.length) (hl : l.length ≤ 1000000) (w : World) (h : RdB w v l) :
    Calls Try.prog 31 #[v, .int .i64 (off : Int), .int .i64 (wd : Int)] w fun e w' => e = .returned (.int .u64 ((nAt l off wd : Nat) : Int)) ∧ Below w.heap.size w w' := by
  obtain ⟨hy, ao, cap, rfl, hc, H⟩ := h
  obtain ⟨b, o, rfl, -, -⟩ := H 0 (by omega)
  have H2 : Hid (∀ j, j < l.length → w.cell? ⟨b, o + j, none⟩ = some (.int .u8 ((l.getD j 0 : Nat) : Int))) := by
    intro j hj
    obtain ⟨b', o', e, h1, h2⟩ := H j hj
    cases e
    exact h2
  have HY := Lib.hid (byt_getD hy)
  obtain ⟨n, hn⟩ : ∃ n, l.length = n := ⟨_, rfl⟩
  rw [hn] at hw hl hc H2
  have hnt := Lib.hid (fun k (hk : off + k < n) => nAt_take l off k (by omega))
  obtain ⟨X, hX⟩ : ∃ f : Nat → Nat, f = fun j => l.getD j 0 := ⟨_, rfl⟩
  obtain ⟨S, hS⟩ : ∃ f : Nat → Nat, f = fun j => nAt l off j := ⟨_, rfl⟩
  have hX' : Hid (∀ j, l.getD j 0 = X j) := fun j => by rw [hX]
  have hS' : Hid (∀ j, nAt l off j = S j) := fun j => by rw [hS]
  have hSl : Hid (∀ j, j ≤ 7 → S j < 72057594037927936) := fun j hj => by
    rw [hS]
    exact Nat.lt_of_lt_of_le (nAt_lt l hy off j) (by have : 256 ^ j ≤ 256 ^ 7 := Nat.pow_le_pow_right (by decide) hj; simpa using this)
  have HN := Lib.hid hn
  have h1 : (off : Int) ≤ (off : Int) + (wd : Int) := by omega
  have h2 : (off : Int) + (wd : Int) ≤ (cap : Int) := by omega
  have h3 : ¬ cap - off = 0 := by omega
  rw [hn]
  clear H hX hS hn hy
  go_enter Try.func31, Try.ntmps31
  go_wp2_with fail
  go_loopw [7, 17] (fun t7 t17 wr => ∃ k : Nat, k ≤ wd ∧ t17 = .int .i64 k ∧ t7 = .int .u64 ((S k : Nat) : Int) ∧ wr = w) (fun _ t17 _ => wd - (intOf t17).toNat)
  case atStart => exact ⟨0, by omega, rfl, by rw [← hS'.out]; simp [nAt, nb], rfl⟩
  case round =>
    obtain ⟨k, hk, rfl, rfl, rfl⟩ := hrel
    by_cases hlt : k < wd
    · have hcell := H2.out (off + k) (by omega)
      have hyk := HY.out (off + k)
      have hst := hnt.out k (by omega)
      have hsl := hSl.out k (by omega)
      rw [hX'.out] at hcell hyk hst
      rw [hS'.out, hS'.out] at hst
      obtain ⟨s, hs⟩ : ∃ s, s = S k := ⟨_, rfl⟩
      obtain ⟨c, hcc⟩ : ∃ c, c = X (off + k) := ⟨_, rfl⟩
      rw [← hcc] at hcell hyk hst
      rw [← hs] at hst hsl ⊢
      have hst := Lib.hid hst
      have ho := or_low_u64 s c hsl hyk
      have hcell' : wr.cell? ⟨b, o + off + k, none⟩ = some (.int .u8 (c : Int)) := by rw [Nat.add_assoc]; exact hcell
      clear HY hnt hX' hS' hs hcc H2 hSl
      go_wp2_with fail
      go_roundw
      case rel => exact ⟨k + 1, by omega, by go_num, by rw [hst.out]; go_num, trivial⟩
      case measure => first | (simp [intOf]; done) | (simp [intOf]; omega)
    · have h9 : k = wd := by omega
      subst h9
      have hss := Lib.hid (hS'.out k)
      obtain ⟨s, hs⟩ : ∃ s, s = S k := ⟨_, rfl⟩
      rw [← hs] at hss ⊢
      clear HY hnt hX' hS' hs hSl
      go_wp2_with fail
      go_ret
      exact ⟨by rw [hss.out]; rfl, Below.refl _ _⟩
end Go.Proofs.Ytdipecepgfaokaa
namespace Go.Proofs.Ytdipecepgfaokaa
set_option linter.unusedSimpArgs false
set_option linter.unusedVariables false
open Go.RowKit

theorem get_x (v : Value) (l : List Nat) (off wd n : Nat) (w : World) (hn : nAt l off wd = n) (h0 : 0 < wd) (h8 : wd ≤ 8) (hw : off + wd ≤ l.length) (hl : l.length ≤ 1000000) (h : RdB w v l) :
    Calls Try.prog 31 #[v, .int .i64 (off : Int), .int .i64 (wd : Int)] w fun e w' => e = .returned (.int .u64 (n : Int)) ∧ Below w.heap.size w w' := by
  subst hn; exact get_c v l off wd h0 h8 hw hl w h
theorem sumB_x (v : Value) (xs : List Nat) (C : Nat) (w : World) (hC : crc xs = C) (h : RdB w v xs) (hx : xs.length ≤ 1000000) :
    Calls Try.prog 13 #[v] w fun e w' => e = .returned (.int .u32 (C : Int)) ∧ Below w.heap.size w w' := by
  subst hC; exact sumB_r v xs w h hx
set_option maxRecDepth 100000 in
set_option maxHeartbeats 4000000 in
theorem rdecode_short (v : Value) (l : List Nat) (w : World) (h : RdB w v l) (hl : l.length < 80) :
    Calls Try.prog 15 #[v] w fun e w' => e = .returned (.tuple #[frZ, .int .i64 4]) ∧ Below w.heap.size w w' := by
  obtain ⟨ao, cap, rfl⟩ := h.form
  obtain ⟨n, hn⟩ : ∃ n, l.length = n := ⟨_, rfl⟩
  rw [hn] at hl ⊢
  clear hn h
  have hi : (n : Int) < 80 := by omega
  go_enter Try.func15, Try.ntmps15
  go_wp2_with fail
  exact bodyPost_row_t 15 #[.int .i64 0, .int .i64 0, .int .i64 0, .int .i64 0, .int .i64 0, .int .i64 0, .int .i64 0, .int .i64 0, .int .i64 0, .int .i64 0, .int .i64 0, .int .i64 0, .int .i64 0, .int .i64 0, .int .i64 0] (.int .i64 4) rfl rfl rfl rfl Try.underlying29 rfl (by kernel_rfl) (row_of_cells 14 _ rfl (by intro i hi; rcases i with _ | _ | _ | _ | _ | _ | _ | _ | _ | _ | _ | _ | _ | _ | _ | i; (go_simp); (go_simp); (go_simp); (go_simp); (go_simp); (go_simp); (go_simp); (go_simp); (go_simp); (go_simp); (go_simp); (go_simp); (go_simp); (go_simp); (go_simp); exact absurd hi (by omega))) ⟨rfl, (by repeat (first | with_reducible exact Below.refl _ _ | with_reducible exact Below_of_hid (by assumption) | with_reducible refine Below.drew ?_ | with_reducible refine below_drewN ?_ _ | (with_reducible refine Below_putRow ?_ ?hB _ _; case hB => (first | omega | (simp; done) | (simp; omega))) | (with_reducible refine Below.alloc ?_ ?hB _; case hB => (first | omega | (simp; done) | (simp; omega))) | (with_reducible refine Below.setCell ?_ ?hB _; case hB => (first | omega | (simp; done) | (simp; omega))) | (with_reducible refine Below.trans ?_ (Below.mono (by assumption) ?hB); case hB => (first | omega | (simp; done) | (simp; omega)))))⟩
set_option maxRecDepth 100000 in
set_option maxHeartbeats 4000000 in
theorem rdecode_long (v : Value) (l : List Nat) (w : World) (h : RdB w v l) (hl : 80 < l.length) :
    Calls Try.prog 15 #[v] w fun e w' => e = .returned (.tuple #[frZ, .int .i64 5]) ∧ Below w.heap.size w w' := by
  obtain ⟨ao, cap, rfl⟩ := h.form
  obtain ⟨n, hn⟩ : ∃ n, l.length = n := ⟨_, rfl⟩
  rw [hn] at hl ⊢
  clear hn h
  have hi : ¬ (n : Int) < 80 := by omega
  have hj : (80 : Int) < (n : Int) := by omega
  go_enter Try.func15, Try.ntmps15
  go_wp2_with fail
  exact bodyPost_row_t 15 #[.int .i64 0, .int .i64 0, .int .i64 0, .int .i64 0, .int .i64 0, .int .i64 0, .int .i64 0, .int .i64 0, .int .i64 0, .int .i64 0, .int .i64 0, .int .i64 0, .int .i64 0, .int .i64 0, .int .i64 0] (.int .i64 5) rfl rfl rfl rfl Try.underlying29 rfl (by kernel_rfl) (row_of_cells 14 _ rfl (by intro i hi; rcases i with _ | _ | _ | _ | _ | _ | _ | _ | _ | _ | _ | _ | _ | _ | _ | i; (go_simp); (go_simp); (go_simp); (go_simp); (go_simp); (go_simp); (go_simp); (go_simp); (go_simp); (go_simp); (go_simp); (go_simp); (go_simp); (go_simp); (go_simp); exact absurd hi (by omega))) ⟨rfl, (by repeat (first | with_reducible exact Below.refl _ _ | with_reducible exact Below_of_hid (by assumption) | with_reducible refine Below.drew ?_ | with_reducible refine below_drewN ?_ _ | (with_reducible refine Below_putRow ?_ ?hB _ _; case hB => (first | omega | (simp; done) | (simp; omega))) | (with_reducible refine Below.alloc ?_ ?hB _; case hB => (first | omega | (simp; done) | (simp; omega))) | (with_reducible refine Below.setCell ?_ ?hB _; case hB => (first | omega | (simp; done) | (simp; omega))) | (with_reducible refine Below.trans ?_ (Below.mono (by assumption) ?hB); case hB => (first | omega | (simp; done) | (simp; omega)))))⟩
set_option maxRecDepth 100000 in
set_option maxHeartbeats 4000000 in
theorem rdecode_magic (v : Value) (l : List Nat) (w : World) (h : RdB w v l) (hl : l.length = 80) (hm : l.take 4 ≠ [97, 108, 105, 49]) :
    Calls Try.prog 15 #[v] w fun e w' => e = .returned (.tuple #[frZ, .int .i64 5]) ∧ Below w.heap.size w w' := by
  obtain ⟨ao, cap, rfl⟩ := h.form
  have hy := h.1
  have hcap : 80 ≤ cap := by obtain ⟨_, _, _, e, hc, _⟩ := h; cases e; omega
  obtain ⟨b, o, rfl, hb, hc0⟩ : ∃ b o, ao = some ⟨b, o, none⟩ ∧ b < w.heap.size ∧ w.cell? ⟨b, o + 0, none⟩ = some (.int .u8 ((l.getD 0 0 : Nat) : Int)) := by
    obtain ⟨_, ao', _, e, _, H⟩ := h; cases e; exact H 0 (by omega)
  have h4 := h.cutL 4 cap (by omega) (by omega)
  rw [hl] at h ⊢
  have hcv := conv_rd (h4.below (w' := w.alloc (Obj.cells #[.int .i64 0, .int .i64 0, .int .i64 0, .int .i64 0, .int .i64 0, .int .i64 0, .int .i64 0, .int .i64 0, .int .i64 0, .int .i64 0, .int .i64 0, .int .i64 0, .int .i64 0, .int .i64 0, .int .i64 0] 29)) ((Below.refl _ _).alloc (Nat.le_refl _) _))
  obtain ⟨M, hM⟩ : ∃ M, M = l.take 4 := ⟨_, rfl⟩
  rw [← hM] at hcv hm
  have hyM : Byt M := by rw [hM]; exact byt_take hy 4
  have hne : ∀ w', Sem.run Try.prog (binOp .neq 9 (strB M) (Value.string { data := #[97, 108, 105, 49] })) w' = .ok (.bool true) w' := fun w' => by
    have := neq_strB M [97, 108, 105, 49] hyM (by intro c hc; simp at hc; omega) 9 w'
    rw [decide_eq_true hm] at this; exact this
  have hgd : ∀ (x y : Operand) (w' : World), Sem.run Try.prog (eqGuard .neq 9 x y (strB M) (Value.string { data := #[97, 108, 105, 49] })) w' = .ok () w' := fun x y w' => eqg_strB .neq 9 x y M [97, 108, 105, 49] w'
  clear hM h4 h hc0 hb
  go_enter Try.func15, Try.ntmps15
  go_wp2_with fail
  exact bodyPost_row_t 15 #[.int .i64 0, .int .i64 0, .int .i64 0, .int .i64 0, .int .i64 0, .int .i64 0, .int .i64 0, .int .i64 0, .int .i64 0, .int .i64 0, .int .i64 0, .int .i64 0, .int .i64 0, .int .i64 0, .int .i64 0] (.int .i64 5) rfl rfl rfl rfl Try.underlying29 rfl (by kernel_rfl) (row_of_cells 14 _ rfl (by intro i hi; rcases i with _ | _ | _ | _ | _ | _ | _ | _ | _ | _ | _ | _ | _ | _ | _ | i; (go_simp); (go_simp); (go_simp); (go_simp); (go_simp); (go_simp); (go_simp); (go_simp); (go_simp); (go_simp); (go_simp); (go_simp); (go_simp); (go_simp); (go_simp); exact absurd hi (by omega))) ⟨rfl, (by repeat (first | with_reducible exact Below.refl _ _ | with_reducible exact Below_of_hid (by assumption) | with_reducible refine Below.drew ?_ | with_reducible refine below_drewN ?_ _ | (with_reducible refine Below_putRow ?_ ?hB _ _; case hB => (first | omega | (simp; done) | (simp; omega))) | (with_reducible refine Below.alloc ?_ ?hB _; case hB => (first | omega | (simp; done) | (simp; omega))) | (with_reducible refine Below.setCell ?_ ?hB _; case hB => (first | omega | (simp; done) | (simp; omega))) | (with_reducible refine Below.trans ?_ (Below.mono (by assumption) ?hB); case hB => (first | omega | (simp; done) | (simp; omega)))))⟩
set_option maxRecDepth 100000 in
set_option maxHeartbeats 16000000 in
theorem rdecode_sum (v : Value) (l : List Nat) (w : World) (h : RdB w v l) (hl : l.length = 80) (hm : l.take 4 = [97, 108, 105, 49]) (hsum : nAt l 76 4 ≠ crc (l.take 76)) :
    Calls Try.prog 15 #[v] w fun e w' => e = .returned (.tuple #[frZ, .int .i64 6]) ∧ Below w.heap.size w w' := by
  obtain ⟨ao, cap, rfl⟩ := h.form
  have hy := h.1
  have hcap : 80 ≤ cap := by obtain ⟨_, _, _, e, hc, _⟩ := h; cases e; omega
  obtain ⟨b, o, rfl, hb, hc0⟩ : ∃ b o, ao = some ⟨b, o, none⟩ ∧ b < w.heap.size ∧ w.cell? ⟨b, o + 0, none⟩ = some (.int .u8 ((l.getD 0 0 : Nat) : Int)) := by
    obtain ⟨_, ao', _, e, _, H⟩ := h; cases e; exact H 0 (by omega)
  have h4 := h.cutL 4 cap (by omega) (by omega)
  have HS := Lib.hid (h.cutL 76 cap (by omega) (by omega))
  rw [hl] at h
  rw [hl]
  have HR := Lib.hid h
  have hcv := conv_rd (h4.below (w' := w.alloc (Obj.cells #[.int .i64 0, .int .i64 0, .int .i64 0, .int .i64 0, .int .i64 0, .int .i64 0, .int .i64 0, .int .i64 0, .int .i64 0, .int .i64 0, .int .i64 0, .int .i64 0, .int .i64 0, .int .i64 0, .int .i64 0] 29)) ((Below.refl _ _).alloc (Nat.le_refl _) _))
  rw [hm] at hcv
  have hne : ∀ w', Sem.run Try.prog (binOp .neq 9 (strB [97, 108, 105, 49]) (Value.string { data := #[97, 108, 105, 49] })) w' = .ok (.bool false) w' := fun w' => neq_strB [97, 108, 105, 49] [97, 108, 105, 49] (by intro c hc; simp at hc; omega) (by intro c hc; simp at hc; omega) 9 w'
  have hgd : ∀ (x y : Operand) (w' : World), Sem.run Try.prog (eqGuard .neq 9 x y (strB [97, 108, 105, 49]) (Value.string { data := #[97, 108, 105, 49] })) w' = .ok () w' := fun x y w' => eqg_strB .neq 9 x y [97, 108, 105, 49] [97, 108, 105, 49] w'
  have HL := Lib.hid hl
  have hnl : nAt l 76 4 < 4294967296 := by unfold nAt; exact nb_lt4 (byt_take (byt_drop hy 76) 4) (by rw [List.length_take, List.length_drop]; omega)
  have HY := Lib.hid hy
  have c76 : (76 : Int) ≤ (cap : Int) := by omega
  have c4 : (4 : Int) ≤ (cap : Int) := by omega
  obtain ⟨b0, hb0⟩ : ∃ b0, b0 = w.heap.size := ⟨_, rfl⟩
  clear hm h4 h hc0 hl hy
  go_enter Try.func15, Try.ntmps15
  go_wp2_with fail
  refine name_wp ?_; intro u0 hu0
  have R0 : Hid (Blk u0 b0 #[.int .i64 0, .int .i64 0, .int .i64 0, .int .i64 0, .int .i64 0, .int .i64 0, .int .i64 0, .int .i64 0, .int .i64 0, .int .i64 0, .int .i64 0, .int .i64 0, .int .i64 0, .int .i64 0, .int .i64 0] 29) := by rw [hu0, hb0]; exact Blk.new _ _ _
  have hB0 : Below b0 w u0 := by rw [hu0, hb0]; show Below w.heap.size w _; exact (by repeat (first | with_reducible exact Below.refl _ _ | with_reducible exact Below_of_hid (by assumption) | with_reducible refine Below.drew ?_ | with_reducible refine below_drewN ?_ _ | (with_reducible refine Below_putRow ?_ ?hB _ _; case hB => (first | omega | (simp; done) | (simp; omega))) | (with_reducible refine Below.alloc ?_ ?hB _; case hB => (first | omega | (simp; done) | (simp; omega))) | (with_reducible refine Below.setCell ?_ ?hB _; case hB => (first | omega | (simp; done) | (simp; omega))) | (with_reducible refine Below.trans ?_ (Below.mono (by assumption) ?hB); case hB => (first | omega | (simp; done) | (simp; omega)))))
  have HB := Lib.hid hB0
  have HB0 := Lib.hid hb0
  have hbw : Below w.heap.size w u0 := by rw [← hb0]; exact hB0
  replace HR := Lib.hid (HR.out.below hbw)
  replace HS := Lib.hid (HS.out.below hbw)
  have hbl : b < b0 := by omega
  have hsz : b0 < u0.heap.size := R0.out.lt
  rw [← hb0]
  clear hu0 hb0 hB0 hbw hb hcv hne hgd
  obtain ⟨N, hN⟩ : ∃ N, N = nAt l 76 4 := ⟨_, rfl⟩
  obtain ⟨C, hC⟩ : ∃ C, C = crc (l.take 76) := ⟨_, rfl⟩
  have hCl : C < 4294967296 := by rw [hC]; exact crc_lt _
  rw [← hN] at hnl
  have hNC : ((N : Int) != (C : Int)) = true := by rw [hN, hC]; simp [Int.ofNat_inj, hsum]
  have HN := Lib.hid hN.symm
  have HC := Lib.hid hC.symm
  clear hN hC
  refine wp_region_quiet_below (by kernel_rfl) (by kernel_rfl) ?_
  repeat (go_big_quiet_step (first
    | (go_at_call 31; exact Calls.regrown_of (get_x _ l 76 4 N _ HN.out (by decide) (by decide) (by have := HL.out; omega) (by have := HL.out; omega) (HR.out.below (below_of_regrown ⟨⟨_, _⟩, rfl⟩))))
    | (go_at_call 13; exact Calls.regrown_of (sumB_x _ (l.take 76) C _ HC.out (HS.out.below (below_of_regrown ⟨⟨_, _⟩, rfl⟩)) (by rw [List.length_take]; omega)))))
  refine wpQuiet_nil ?_
  intro wc hw
  have hb := below_of_regrown hw
  replace R0 := Lib.hid (R0.out.keep hb)
  replace HB := Lib.hid (HB.out.trans (hb.mono (by omega)))
  replace HR := Lib.hid (HR.out.below hb)
  have hsw := hb.size
  clear hw hb HS
  have e0 : wc.setCell ⟨b0, 0, none⟩ (.int .i64 0) = wc := R0.out.setCell_self rfl
  have e1 : wc.setCell ⟨b0, 1, none⟩ (.int .i64 0) = wc := R0.out.setCell_self rfl
  have e2 : wc.setCell ⟨b0, 2, none⟩ (.int .i64 0) = wc := R0.out.setCell_self rfl
  have e3 : wc.setCell ⟨b0, 3, none⟩ (.int .i64 0) = wc := R0.out.setCell_self rfl
  have e4 : wc.setCell ⟨b0, 4, none⟩ (.int .i64 0) = wc := R0.out.setCell_self rfl
  have e5 : wc.setCell ⟨b0, 5, none⟩ (.int .i64 0) = wc := R0.out.setCell_self rfl
  have e6 : wc.setCell ⟨b0, 6, none⟩ (.int .i64 0) = wc := R0.out.setCell_self rfl
  have e7 : wc.setCell ⟨b0, 7, none⟩ (.int .i64 0) = wc := R0.out.setCell_self rfl
  have e8 : wc.setCell ⟨b0, 8, none⟩ (.int .i64 0) = wc := R0.out.setCell_self rfl
  have e9 : wc.setCell ⟨b0, 9, none⟩ (.int .i64 0) = wc := R0.out.setCell_self rfl
  have e10 : wc.setCell ⟨b0, 10, none⟩ (.int .i64 0) = wc := R0.out.setCell_self rfl
  have e11 : wc.setCell ⟨b0, 11, none⟩ (.int .i64 0) = wc := R0.out.setCell_self rfl
  have e12 : wc.setCell ⟨b0, 12, none⟩ (.int .i64 0) = wc := R0.out.setCell_self rfl
  have e13 : wc.setCell ⟨b0, 13, none⟩ (.int .i64 0) = wc := R0.out.setCell_self rfl
  have e14 : wc.setCell ⟨b0, 14, none⟩ (.int .i64 0) = wc := R0.out.setCell_self rfl
  have k0 : wc.cell? ⟨b0, 0, none⟩ = some (.int .i64 0) := R0.out.cell rfl
  have k1 : wc.cell? ⟨b0, 1, none⟩ = some (.int .i64 0) := R0.out.cell rfl
  have k2 : wc.cell? ⟨b0, 2, none⟩ = some (.int .i64 0) := R0.out.cell rfl
  have k3 : wc.cell? ⟨b0, 3, none⟩ = some (.int .i64 0) := R0.out.cell rfl
  have k4 : wc.cell? ⟨b0, 4, none⟩ = some (.int .i64 0) := R0.out.cell rfl
  have k5 : wc.cell? ⟨b0, 5, none⟩ = some (.int .i64 0) := R0.out.cell rfl
  have k6 : wc.cell? ⟨b0, 6, none⟩ = some (.int .i64 0) := R0.out.cell rfl
  have k7 : wc.cell? ⟨b0, 7, none⟩ = some (.int .i64 0) := R0.out.cell rfl
  have k8 : wc.cell? ⟨b0, 8, none⟩ = some (.int .i64 0) := R0.out.cell rfl
  have k9 : wc.cell? ⟨b0, 9, none⟩ = some (.int .i64 0) := R0.out.cell rfl
  have k10 : wc.cell? ⟨b0, 10, none⟩ = some (.int .i64 0) := R0.out.cell rfl
  have k11 : wc.cell? ⟨b0, 11, none⟩ = some (.int .i64 0) := R0.out.cell rfl
  have k12 : wc.cell? ⟨b0, 12, none⟩ = some (.int .i64 0) := R0.out.cell rfl
  have k13 : wc.cell? ⟨b0, 13, none⟩ = some (.int .i64 0) := R0.out.cell rfl
  have k14 : wc.cell? ⟨b0, 14, none⟩ = some (.int .i64 0) := R0.out.cell rfl
  have f0 := R0.out.frozen
  have l0 := R0.out.lt
  have r0 := R0.out.row?_all 15 rfl
  go_wp2_with fail
  exact bodyPost_row_t 15 #[.int .i64 0, .int .i64 0, .int .i64 0, .int .i64 0, .int .i64 0, .int .i64 0, .int .i64 0, .int .i64 0, .int .i64 0, .int .i64 0, .int .i64 0, .int .i64 0, .int .i64 0, .int .i64 0, .int .i64 0] (.int .i64 6) rfl rfl rfl rfl Try.underlying29 rfl (by kernel_rfl) r0 ⟨rfl, by rw [← HB0.out]; exact HB.out⟩
end Go.Proofs.Ytdipecepgfaokaa
namespace Go.Proofs.Ytdipecepgfaokaa
set_option linter.unusedSimpArgs false
set_option linter.unusedVariables false
open Go.RowKit

theorem get_y (oi wi : Int) (v : Value) (l : List Nat) (off wd n : Nat) (w : World) (ho : oi = (off : Int)) (hwi : wi = (wd : Int)) (hn : nAt l off wd = n) (h0 : 0 < wd) (h8 : wd ≤ 8) (hw : off + wd ≤ l.length) (hl : l.length ≤ 1000000) (h : RdB w v l) :
    Calls Try.prog 31 #[v, .int .i64 oi, .int .i64 wi] w fun e w' => e = .returned (.int .u64 (n : Int)) ∧ Below w.heap.size w w' := by
  subst hn; subst ho; subst hwi; exact get_c v l off wd h0 h8 hw hl w h
theorem inw_low {w : World} {fr : Nat → Option Fresh} {g : Nat → Nat} {N : List Nat} (p : Inw w.drew fr g N) : Below w.heap.size w p.w := ⟨p.low.os, p.low.tape, p.low.output, p.low.size, p.low.block⟩
theorem nAt_one (l : List Nat) (off : Nat) (h : off < l.length) : nAt l off 1 = l.getD off 0 := by
  have := nAt_take l off 0 (by omega)
  rw [this, Nat.add_zero]
  simp [nAt, nb]
theorem wrap_6432 (n : Int) : wrap64 (wrap32 n) = wrap32 n := by unfold wrap64 wrap32; omega
set_option maxRecDepth 100000 in
set_option maxHeartbeats 16000000 in
theorem rdecode_t (v : Value) (l : List Nat) (w : World) (h : RdB w v l) (hl : l.length = 80) (hm : l.take 4 = [97, 108, 105, 49]) (hsum : nAt l 76 4 = crc (l.take 76)) (hmay : mayF (frL l) = true) :
    Calls Try.prog 15 #[v] w fun e w' => e = .returned (.tuple #[frV (frL l), .int .i64 0]) ∧ Below w.heap.size w w' := by
  obtain ⟨nk, hk⟩ : ∃ z, nAt l 4 1 = z := ⟨_, rfl⟩
  obtain ⟨ns, hs⟩ : ∃ z, nAt l 5 1 = z := ⟨_, rfl⟩
  obtain ⟨nds, hds⟩ : ∃ z, nAt l 6 1 = z := ⟨_, rfl⟩
  obtain ⟨nwh, hwh⟩ : ∃ z, nAt l 7 1 = z := ⟨_, rfl⟩
  obtain ⟨nbo, hbo⟩ : ∃ z, nAt l 8 2 = z := ⟨_, rfl⟩
  obtain ⟨nsq, hsq⟩ : ∃ z, nAt l 10 2 = z := ⟨_, rfl⟩
  obtain ⟨nst, hst⟩ : ∃ z, nAt l 12 8 = z := ⟨_, rfl⟩
  obtain ⟨nta, hta⟩ : ∃ z, nAt l 20 8 = z := ⟨_, rfl⟩
  obtain ⟨ntb, htb⟩ : ∃ z, nAt l 28 8 = z := ⟨_, rfl⟩
  obtain ⟨nwn, hwn⟩ : ∃ z, nAt l 36 8 = z := ⟨_, rfl⟩
  obtain ⟨nx, hx⟩ : ∃ z, nAt l 44 4 = z := ⟨_, rfl⟩
  obtain ⟨ny, hy⟩ : ∃ z, nAt l 48 4 = z := ⟨_, rfl⟩
  obtain ⟨na, ha⟩ : ∃ z, nAt l 52 8 = z := ⟨_, rfl⟩
  obtain ⟨nbb, hbb⟩ : ∃ z, nAt l 60 8 = z := ⟨_, rfl⟩
  obtain ⟨nd, hd⟩ : ∃ z, nAt l 68 8 = z := ⟨_, rfl⟩
  have bk : nk < 256 := by rw [← hk]; exact nAt_lt l h.1 4 1
  have ik : wrap64 (nk : Int) = (nk : Int) := by unfold wrap64; omega
  have bs : ns < 256 := by rw [← hs]; exact nAt_lt l h.1 5 1
  have is : wrap64 (ns : Int) = (ns : Int) := by unfold wrap64; omega
  have bds : nds < 256 := by rw [← hds]; exact nAt_lt l h.1 6 1
  have ids : wrap64 (nds : Int) = (nds : Int) := by unfold wrap64; omega
  have bwh : nwh < 256 := by rw [← hwh]; exact nAt_lt l h.1 7 1
  have iwh : wrap64 (nwh : Int) = (nwh : Int) := by unfold wrap64; omega
  have HF : Hid (frL l = ⟨(nk : Int), (ns : Int), wrap64 (nbo : Int), wrap64 (nsq : Int), wrap64 (nst : Int), (nds : Int), wrap64 (nta : Int), wrap64 (ntb : Int), (nwh : Int), wrap64 (nwn : Int), wrap32 (nx : Int), wrap32 (ny : Int), wrap64 (na : Int), wrap64 (nbb : Int), wrap64 (nd : Int)⟩) := by show _ = _; unfold frL; rw [hk, hs, hds, hwh, hbo, hsq, hst, hta, htb, hwn, hx, hy, ha, hbb, hd, ik, is, ids, iwh]
  clear ik is ids iwh
  rw [HF.out] at hmay
  rw [HF.out]
  replace hk := Lib.hid hk
  replace hs := Lib.hid hs
  replace hds := Lib.hid hds
  replace hwh := Lib.hid hwh
  replace hbo := Lib.hid hbo
  replace hsq := Lib.hid hsq
  replace hst := Lib.hid hst
  replace hta := Lib.hid hta
  replace htb := Lib.hid htb
  replace hwn := Lib.hid hwn
  replace hx := Lib.hid hx
  replace hy := Lib.hid hy
  replace ha := Lib.hid ha
  replace hbb := Lib.hid hbb
  replace hd := Lib.hid hd
  have HM := Lib.hid hmay
  clear hmay
  obtain ⟨ao, cap, rfl⟩ := h.form
  have hy := h.1
  have hcap : 80 ≤ cap := by obtain ⟨_, _, _, e, hc, _⟩ := h; cases e; omega
  obtain ⟨b, o, rfl, hb, hc0⟩ : ∃ b o, ao = some ⟨b, o, none⟩ ∧ b < w.heap.size ∧ w.cell? ⟨b, o + 0, none⟩ = some (.int .u8 ((l.getD 0 0 : Nat) : Int)) := by
    obtain ⟨_, ao', _, e, _, H⟩ := h; cases e; exact H 0 (by omega)
  have h4 := h.cutL 4 cap (by omega) (by omega)
  have HS := Lib.hid (h.cutL 76 cap (by omega) (by omega))
  rw [hl] at h
  rw [hl]
  have HR := Lib.hid h
  have hcv := conv_rd (h4.below (w' := w.alloc (Obj.cells #[.int .i64 0, .int .i64 0, .int .i64 0, .int .i64 0, .int .i64 0, .int .i64 0, .int .i64 0, .int .i64 0, .int .i64 0, .int .i64 0, .int .i64 0, .int .i64 0, .int .i64 0, .int .i64 0, .int .i64 0] 29)) ((Below.refl _ _).alloc (Nat.le_refl _) _))
  rw [hm] at hcv
  have hne : ∀ w', Sem.run Try.prog (binOp .neq 9 (strB [97, 108, 105, 49]) (Value.string { data := #[97, 108, 105, 49] })) w' = .ok (.bool false) w' := fun w' => neq_strB [97, 108, 105, 49] [97, 108, 105, 49] (by intro c hc; simp at hc; omega) (by intro c hc; simp at hc; omega) 9 w'
  have hgd : ∀ (x y : Operand) (w' : World), Sem.run Try.prog (eqGuard .neq 9 x y (strB [97, 108, 105, 49]) (Value.string { data := #[97, 108, 105, 49] })) w' = .ok () w' := fun x y w' => eqg_strB .neq 9 x y [97, 108, 105, 49] [97, 108, 105, 49] w'
  have HL := Lib.hid hl
  have hnl : nAt l 76 4 < 4294967296 := by unfold nAt; exact nb_lt4 (byt_take (byt_drop hy 76) 4) (by rw [List.length_take, List.length_drop]; omega)
  have HY := Lib.hid hy
  have c76 : (76 : Int) ≤ (cap : Int) := by omega
  have c4 : (4 : Int) ≤ (cap : Int) := by omega
  obtain ⟨b0, hb0⟩ : ∃ b0, b0 = w.heap.size := ⟨_, rfl⟩
  clear hm h4 h hc0 hl hy
  go_enter Try.func15, Try.ntmps15
  go_wp2_with fail
  refine name_wp ?_; intro u0 hu0
  have R0 : Hid (Blk u0 b0 #[.int .i64 0, .int .i64 0, .int .i64 0, .int .i64 0, .int .i64 0, .int .i64 0, .int .i64 0, .int .i64 0, .int .i64 0, .int .i64 0, .int .i64 0, .int .i64 0, .int .i64 0, .int .i64 0, .int .i64 0] 29) := by rw [hu0, hb0]; exact Blk.new _ _ _
  have hB0 : Below b0 w u0 := by rw [hu0, hb0]; show Below w.heap.size w _; exact (by repeat (first | with_reducible exact Below.refl _ _ | with_reducible exact Below_of_hid (by assumption) | with_reducible refine Below.drew ?_ | with_reducible refine below_drewN ?_ _ | (with_reducible refine Below_putRow ?_ ?hB _ _; case hB => (first | omega | (simp; done) | (simp; omega))) | (with_reducible refine Below.alloc ?_ ?hB _; case hB => (first | omega | (simp; done) | (simp; omega))) | (with_reducible refine Below.setCell ?_ ?hB _; case hB => (first | omega | (simp; done) | (simp; omega))) | (with_reducible refine Below.trans ?_ (Below.mono (by assumption) ?hB); case hB => (first | omega | (simp; done) | (simp; omega)))))
  have HB := Lib.hid hB0
  have HB0 := Lib.hid hb0
  have hbw : Below w.heap.size w u0 := by rw [← hb0]; exact hB0
  replace HR := Lib.hid (HR.out.below hbw)
  replace HS := Lib.hid (HS.out.below hbw)
  have hbl : b < b0 := by omega
  have hsz : b0 < u0.heap.size := R0.out.lt
  rw [← hb0]
  clear hu0 hb0 hB0 hbw hb hcv hne hgd
  obtain ⟨N, hN⟩ : ∃ N, N = nAt l 76 4 := ⟨_, rfl⟩
  obtain ⟨C, hC⟩ : ∃ C, C = crc (l.take 76) := ⟨_, rfl⟩
  have hCl : C < 4294967296 := by rw [hC]; exact crc_lt _
  rw [← hN] at hnl
  have hNC : ((N : Int) != (C : Int)) = false := by rw [hN, hC]; simp [Int.ofNat_inj, hsum]
  have HN := Lib.hid hN.symm
  have HC := Lib.hid hC.symm
  clear hN hC
  refine wp_region_quiet_below (by kernel_rfl) (by kernel_rfl) ?_
  repeat (go_big_quiet_step (first
    | (go_at_call 31; exact Calls.regrown_of (get_x _ l 76 4 N _ HN.out (by decide) (by decide) (by have := HL.out; omega) (by have := HL.out; omega) (HR.out.below (below_of_regrown ⟨⟨_, _⟩, rfl⟩))))
    | (go_at_call 13; exact Calls.regrown_of (sumB_x _ (l.take 76) C _ HC.out (HS.out.below (below_of_regrown ⟨⟨_, _⟩, rfl⟩)) (by rw [List.length_take]; omega)))))
  refine wpQuiet_nil ?_
  intro wc hw
  have hb := below_of_regrown hw
  replace R0 := Lib.hid (R0.out.keep hb)
  replace HB := Lib.hid (HB.out.trans (hb.mono (by omega)))
  replace HR := Lib.hid (HR.out.below hb)
  have hsw := hb.size
  clear hw hb HS
  have HC8 : Hid (∀ j, j < 80 → wc.cell? ⟨b, o + j, none⟩ = some (.int .u8 ((l.getD j 0 : Nat) : Int))) := by
    intro j hj
    obtain ⟨_, ao', _, e, _, H⟩ := HR.out
    obtain ⟨b', o', e', _, hv⟩ := H j (by have := HL.out; omega)
    simp only [Value.slice.injEq] at e
    obtain ⟨rfl, -, -⟩ := e
    cases e'; exact hv
  have cck := @inw_cell _ _ _ (show wc.cell? ⟨b, o + 4, none⟩ = some (.int .u8 (nk : Int)) from by rw [← hk.out, nAt_one l 4 (by have := HL.out; omega)]; exact HC8.out 4 (by decide))
  have ccs := @inw_cell _ _ _ (show wc.cell? ⟨b, o + 5, none⟩ = some (.int .u8 (ns : Int)) from by rw [← hs.out, nAt_one l 5 (by have := HL.out; omega)]; exact HC8.out 5 (by decide))
  have ccds := @inw_cell _ _ _ (show wc.cell? ⟨b, o + 6, none⟩ = some (.int .u8 (nds : Int)) from by rw [← hds.out, nAt_one l 6 (by have := HL.out; omega)]; exact HC8.out 6 (by decide))
  have ccwh := @inw_cell _ _ _ (show wc.cell? ⟨b, o + 7, none⟩ = some (.int .u8 (nwh : Int)) from by rw [← hwh.out, nAt_one l 7 (by have := HL.out; omega)]; exact HC8.out 7 (by decide))
  go_wp2_with fail
  refine wp_region_fresh' 36 (fun k => match k with | 35 => some ⟨.cells #[.int .i64 0, .int .i64 0, .int .i64 0, .int .i64 0, .int .i64 0, .int .i64 0, .int .i64 0, .int .i64 0, .int .i64 0, .int .i64 0, .int .i64 0, .int .i64 0, .int .i64 0, .int .i64 0, .int .i64 0] 29, fun g => .pointer (some ⟨g, 0, none⟩)⟩ | _ => none) (fun _ => []) (by kernel_rfl) (by kernel_rfl) ?_; refine ex_list ?_; apply Exists.intro; refine ex_list ?_; apply Exists.intro; refine ex_list ?_; apply Exists.intro; refine ex_list ?_; apply Exists.intro; refine ex_list ?_; apply Exists.intro; refine ex_list ?_; apply Exists.intro; refine ex_list ?_; apply Exists.intro; refine ex_list ?_; apply Exists.intro; refine ex_list ?_; apply Exists.intro; refine ex_list ?_; apply Exists.intro; refine ex_list ?_; apply Exists.intro; refine ex_list ?_; apply Exists.intro; refine ex_list ?_; apply Exists.intro; refine ex_list ?_; apply Exists.intro; refine ex_list ?_; apply Exists.intro; refine ex_list ?_; apply Exists.intro; refine ex_list ?_; apply Exists.intro; refine ex_list ?_; apply Exists.intro; refine ex_list ?_; apply Exists.intro; refine ex_list ?_; apply Exists.intro; refine ex_list ?_; apply Exists.intro; refine ex_list ?_; apply Exists.intro; refine ex_list ?_; apply Exists.intro; refine ex_list ?_; apply Exists.intro; refine ex_list ?_; apply Exists.intro; refine ex_list ?_; apply Exists.intro; refine ex_list ?_; apply Exists.intro; refine ex_list ?_; apply Exists.intro; refine ex_list ?_; apply Exists.intro; refine ex_list ?_; apply Exists.intro; refine ex_list ?_; apply Exists.intro; refine ex_list ?_; apply Exists.intro; refine ex_list ?_; apply Exists.intro; refine ex_list ?_; apply Exists.intro; refine ex_list ?_; apply Exists.intro; refine ex_list ⟨undef, ?_⟩; refine ⟨[], fun gg NN hN => ?_⟩; simp only [List.take_succ_cons, List.take_zero, List.drop_succ_cons, List.drop_zero]; (repeat (first | (refine lexF_quiet rfl ?_; go_big_quiet_step (first | exact rfl | ((rename_i px; go_at_call 31; first | with_reducible exact calls_in (get_y 8 2 _ l 8 2 nbo _ rfl rfl hbo.out (by decide) (by decide) (by have := HL.out; omega) (by have := HL.out; omega) (HR.out.below (inw_low px))) | with_reducible exact calls_in (get_y 10 2 _ l 10 2 nsq _ rfl rfl hsq.out (by decide) (by decide) (by have := HL.out; omega) (by have := HL.out; omega) (HR.out.below (inw_low px))) | with_reducible exact calls_in (get_y 12 8 _ l 12 8 nst _ rfl rfl hst.out (by decide) (by decide) (by have := HL.out; omega) (by have := HL.out; omega) (HR.out.below (inw_low px))) | with_reducible exact calls_in (get_y 20 8 _ l 20 8 nta _ rfl rfl hta.out (by decide) (by decide) (by have := HL.out; omega) (by have := HL.out; omega) (HR.out.below (inw_low px))) | with_reducible exact calls_in (get_y 28 8 _ l 28 8 ntb _ rfl rfl htb.out (by decide) (by decide) (by have := HL.out; omega) (by have := HL.out; omega) (HR.out.below (inw_low px))) | with_reducible exact calls_in (get_y 36 8 _ l 36 8 nwn _ rfl rfl hwn.out (by decide) (by decide) (by have := HL.out; omega) (by have := HL.out; omega) (HR.out.below (inw_low px)))))); refine wpQuiet_nil ⟨rfl, ?_⟩) | (refine lexF_fresh _ (by rfl) (by rfl) ?hex ?_; (case hex => (intro wx; first | (go_simp; done) | (go_simp; rfl))); simp only [Act.put, List.setIfInBounds_toArray, List.set_cons_succ, List.set_cons_zero])))
  refine lexF_nil ?_
  intro x1 hb' hh hdd
  have hb : Below wc.heap.size wc x1 := hb'
  obtain ⟨l5, e5⟩ := hh 35 _ (by decide) rfl
  obtain ⟨gf, hgf⟩ : ∃ g, gg 35 = g := ⟨_, rfl⟩
  rw [hgf] at l5 e5 ⊢
  have GF : Hid (Blk x1 gf #[.int .i64 0, .int .i64 0, .int .i64 0, .int .i64 0, .int .i64 0, .int .i64 0, .int .i64 0, .int .i64 0, .int .i64 0, .int .i64 0, .int .i64 0, .int .i64 0, .int .i64 0, .int .i64 0, .int .i64 0] 29) := e5
  clear hb' hh hdd e5 HC8 hgf cck ccs ccds ccwh
  replace R0 := Lib.hid (R0.out.keep hb)
  have hsx := hb.size
  replace HB := Lib.hid (HB.out.trans (hb.mono (by omega)))
  replace HR := Lib.hid (HR.out.below hb)
  have hgl : b0 < gf := by omega
  clear hb
  have lf := GF.out.lt; have ff := GF.out.frozen
  have q0 := GF.out.cell (i := 0) (v := .int .i64 0) rfl
  have q1 := GF.out.cell (i := 1) (v := .int .i64 0) rfl
  have q2 := GF.out.cell (i := 2) (v := .int .i64 0) rfl
  have q3 := GF.out.cell (i := 3) (v := .int .i64 0) rfl
  have q4 := GF.out.cell (i := 4) (v := .int .i64 0) rfl
  have q5 := GF.out.cell (i := 5) (v := .int .i64 0) rfl
  have q6 := GF.out.cell (i := 6) (v := .int .i64 0) rfl
  have q7 := GF.out.cell (i := 7) (v := .int .i64 0) rfl
  have q8 := GF.out.cell (i := 8) (v := .int .i64 0) rfl
  have q9 := GF.out.cell (i := 9) (v := .int .i64 0) rfl
  have q10 := GF.out.cell (i := 10) (v := .int .i64 0) rfl
  have q11 := GF.out.cell (i := 11) (v := .int .i64 0) rfl
  have q12 := GF.out.cell (i := 12) (v := .int .i64 0) rfl
  have q13 := GF.out.cell (i := 13) (v := .int .i64 0) rfl
  have q14 := GF.out.cell (i := 14) (v := .int .i64 0) rfl
  go_wp2_with fail
  refine name_calls ?_; intro u1 hu1
  have hne0 : b0 ≠ gf := by omega
  replace R0 := (show Hid (Blk u1 b0 #[.int .i64 0, .int .i64 0, .int .i64 0, .int .i64 0, .int .i64 0, .int .i64 0, .int .i64 0, .int .i64 0, .int .i64 0, .int .i64 0, .int .i64 0, .int .i64 0, .int .i64 0, .int .i64 0, .int .i64 0] 29) by rw [hu1]; exact (((((((((((((((R0.out.setCell_other hne0 _).setCell_other hne0 _).setCell_other hne0 _).setCell_other hne0 _).setCell_other hne0 _).setCell_other hne0 _).setCell_other hne0 _).setCell_other hne0 _).setCell_other hne0 _).setCell_other hne0 _).setCell_other hne0 _).setCell_other hne0 _).setCell_other hne0 _).setCell_other hne0 _).setCell_other hne0 _))
  have hbS : OnlyAt gf x1 u1 := by rw [hu1]; exact (((((((((((((((OnlyAt.refl.setCell 0 _).setCell 1 _).setCell 2 _).setCell 3 _).setCell 4 _).setCell 5 _).setCell 6 _).setCell 7 _).setCell 8 _).setCell 9 _).setCell 10 _).setCell 11 _).setCell 12 _).setCell 13 _).setCell 14 _)
  replace HR := Lib.hid (rd_only15 hbS GF.out HR.out)
  have GF2 : Hid (Blk u1 gf #[.int .i64 ((nk : Int)), .int .i64 ((ns : Int)), .int .i64 (wrap64 (nbo : Int)), .int .i64 (wrap64 (nsq : Int)), .int .i64 (wrap64 (nst : Int)), .int .i64 ((nds : Int)), .int .i64 (wrap64 (nta : Int)), .int .i64 (wrap64 (ntb : Int)), .int .i64 ((nwh : Int)), .int .i64 (wrap64 (nwn : Int)), .int .i64 (0), .int .i64 (0), .int .i64 (0), .int .i64 (0), .int .i64 (0)] 29) := by rw [hu1]; exact Blk.of_eq ((((((((((((((((GF.out.setCell_same 0 _).setCell_same 1 _).setCell_same 2 _).setCell_same 3 _).setCell_same 4 _).setCell_same 5 _).setCell_same 6 _).setCell_same 7 _).setCell_same 8 _).setCell_same 9 _).setCell_same 10 _).setCell_same 11 _).setCell_same 12 _).setCell_same 13 _).setCell_same 14 _)) (by simp)
  replace GF := GF2
  replace HB := Lib.hid (hbS.below HB.out (by rw [HB0.out]; exact Nat.le_refl _) (by omega))
  clear GF2 hbS hne0 hu1 lf ff q0 q1 q2 q3 q4 q5 q6 q7 q8 q9 q10 q11 q12 q13 q14
  have lR := R0.out.lt
  refine Calls.mono (get_x _ l 44 4 nx _ hx.out (by decide) (by decide) (by have := HL.out; omega) (by have := HL.out; omega) HR.out) ?_; rintro e x2 ⟨rfl, hb⟩
  replace R0 := Lib.hid (R0.out.keep hb)
  replace GF := Lib.hid (GF.out.keep hb)
  replace HB := Lib.hid (HB.out.trans (hb.mono (by omega)))
  replace HR := Lib.hid (HR.out.below hb)
  clear hb lR
  go_wp2_with fail
  have lR := R0.out.lt
  refine Calls.mono (get_x _ l 48 4 ny _ hy.out (by decide) (by decide) (by have := HL.out; omega) (by have := HL.out; omega) HR.out) ?_; rintro e x3 ⟨rfl, hb⟩
  replace R0 := Lib.hid (R0.out.keep hb)
  replace GF := Lib.hid (GF.out.keep hb)
  replace HB := Lib.hid (HB.out.trans (hb.mono (by omega)))
  replace HR := Lib.hid (HR.out.below hb)
  clear hb lR
  have lf := GF.out.lt; have ff := GF.out.frozen
  have q10 := GF.out.cell (i := 10) (v := .int .i64 0) rfl
  have q11 := GF.out.cell (i := 11) (v := .int .i64 0) rfl
  go_wp2_with fail
  refine name_calls ?_; intro y0 hy0
  have hne0 : b0 ≠ gf := by omega
  replace R0 := (show Hid (Blk y0 b0 #[.int .i64 0, .int .i64 0, .int .i64 0, .int .i64 0, .int .i64 0, .int .i64 0, .int .i64 0, .int .i64 0, .int .i64 0, .int .i64 0, .int .i64 0, .int .i64 0, .int .i64 0, .int .i64 0, .int .i64 0] 29) by rw [hy0]; exact ((R0.out.setCell_other hne0 _).setCell_other hne0 _))
  have hbS : OnlyAt gf x3 y0 := by rw [hy0]; exact ((OnlyAt.refl.setCell 10 _).setCell 11 _)
  replace HR := Lib.hid (rd_only15 hbS GF.out HR.out)
  have GF2 : Hid (Blk y0 gf #[.int .i64 ((nk : Int)), .int .i64 ((ns : Int)), .int .i64 (wrap64 (nbo : Int)), .int .i64 (wrap64 (nsq : Int)), .int .i64 (wrap64 (nst : Int)), .int .i64 ((nds : Int)), .int .i64 (wrap64 (nta : Int)), .int .i64 (wrap64 (ntb : Int)), .int .i64 ((nwh : Int)), .int .i64 (wrap64 (nwn : Int)), .int .i64 (wrap32 (nx : Int)), .int .i64 (wrap32 (ny : Int)), .int .i64 (0), .int .i64 (0), .int .i64 (0)] 29) := by rw [hy0]; exact Blk.of_eq (((GF.out.setCell_same 10 _).setCell_same 11 _)) (by simp [wrap_6432])
  replace GF := GF2
  replace HB := Lib.hid (hbS.below HB.out (by rw [HB0.out]; exact Nat.le_refl _) (by omega))
  clear GF2 hbS hne0 hy0 lf ff q10 q11
  have lR := R0.out.lt
  refine Calls.mono (get_x _ l 52 8 na _ ha.out (by decide) (by decide) (by have := HL.out; omega) (by have := HL.out; omega) HR.out) ?_; rintro e x4 ⟨rfl, hb⟩
  replace R0 := Lib.hid (R0.out.keep hb)
  replace GF := Lib.hid (GF.out.keep hb)
  replace HB := Lib.hid (HB.out.trans (hb.mono (by omega)))
  replace HR := Lib.hid (HR.out.below hb)
  clear hb lR
  go_wp2_with fail
  have lR := R0.out.lt
  refine Calls.mono (get_x _ l 60 8 nbb _ hbb.out (by decide) (by decide) (by have := HL.out; omega) (by have := HL.out; omega) HR.out) ?_; rintro e x5 ⟨rfl, hb⟩
  replace R0 := Lib.hid (R0.out.keep hb)
  replace GF := Lib.hid (GF.out.keep hb)
  replace HB := Lib.hid (HB.out.trans (hb.mono (by omega)))
  replace HR := Lib.hid (HR.out.below hb)
  clear hb lR
  go_wp2_with fail
  have lR := R0.out.lt
  refine Calls.mono (get_x _ l 68 8 nd _ hd.out (by decide) (by decide) (by have := HL.out; omega) (by have := HL.out; omega) HR.out) ?_; rintro e x6 ⟨rfl, hb⟩
  replace R0 := Lib.hid (R0.out.keep hb)
  replace GF := Lib.hid (GF.out.keep hb)
  replace HB := Lib.hid (HB.out.trans (hb.mono (by omega)))
  replace HR := Lib.hid (HR.out.below hb)
  clear hb lR
  have lf := GF.out.lt; have ff := GF.out.frozen
  have q12 := GF.out.cell (i := 12) (v := .int .i64 0) rfl
  have q13 := GF.out.cell (i := 13) (v := .int .i64 0) rfl
  have q14 := GF.out.cell (i := 14) (v := .int .i64 0) rfl
  go_upto_region 10 with fail
  refine name_wp ?_; intro y1 hy1
  have hne0 : b0 ≠ gf := by omega
  replace R0 := (show Hid (Blk y1 b0 #[.int .i64 0, .int .i64 0, .int .i64 0, .int .i64 0, .int .i64 0, .int .i64 0, .int .i64 0, .int .i64 0, .int .i64 0, .int .i64 0, .int .i64 0, .int .i64 0, .int .i64 0, .int .i64 0, .int .i64 0] 29) by rw [hy1]; exact (((R0.out.setCell_other hne0 _).setCell_other hne0 _).setCell_other hne0 _))
  have hbS : OnlyAt gf x6 y1 := by rw [hy1]; exact (((OnlyAt.refl.setCell 12 _).setCell 13 _).setCell 14 _)
  replace HR := Lib.hid (rd_only15 hbS GF.out HR.out)
  have GF2 : Hid (Blk y1 gf #[.int .i64 ((nk : Int)), .int .i64 ((ns : Int)), .int .i64 (wrap64 (nbo : Int)), .int .i64 (wrap64 (nsq : Int)), .int .i64 (wrap64 (nst : Int)), .int .i64 ((nds : Int)), .int .i64 (wrap64 (nta : Int)), .int .i64 (wrap64 (ntb : Int)), .int .i64 ((nwh : Int)), .int .i64 (wrap64 (nwn : Int)), .int .i64 (wrap32 (nx : Int)), .int .i64 (wrap32 (ny : Int)), .int .i64 (wrap64 (na : Int)), .int .i64 (wrap64 (nbb : Int)), .int .i64 (wrap64 (nd : Int))] 29) := by rw [hy1]; exact Blk.of_eq ((((GF.out.setCell_same 12 _).setCell_same 13 _).setCell_same 14 _)) (by simp)
  replace GF := GF2
  replace HB := Lib.hid (hbS.below HB.out (by rw [HB0.out]; exact Nat.le_refl _) (by omega))
  clear GF2 hbS hne0 hy1 lf ff q12 q13 q14
  obtain ⟨RR, hRR⟩ : ∃ R : Array Value, R = #[.int .i64 ((nk : Int)), .int .i64 ((ns : Int)), .int .i64 (wrap64 (nbo : Int)), .int .i64 (wrap64 (nsq : Int)), .int .i64 (wrap64 (nst : Int)), .int .i64 ((nds : Int)), .int .i64 (wrap64 (nta : Int)), .int .i64 (wrap64 (ntb : Int)), .int .i64 ((nwh : Int)), .int .i64 (wrap64 (nwn : Int)), .int .i64 (wrap32 (nx : Int)), .int .i64 (wrap32 (ny : Int)), .int .i64 (wrap64 (na : Int)), .int .i64 (wrap64 (nbb : Int)), .int .i64 (wrap64 (nd : Int))] := ⟨_, rfl⟩
  have rw2 : y1.row? gf 0 15 = some RR := by rw [hRR]; exact GF.out.row?_all 15 rfl
  have HRR := Lib.hid hRR
  clear hRR
  go_wp2_with fail
  rw [HRR.out]
  refine Calls.mono (rframemay_v ⟨(nk : Int), (ns : Int), wrap64 (nbo : Int), wrap64 (nsq : Int), wrap64 (nst : Int), (nds : Int), wrap64 (nta : Int), wrap64 (ntb : Int), (nwh : Int), wrap64 (nwn : Int), wrap32 (nx : Int), wrap32 (ny : Int), wrap64 (na : Int), wrap64 (nbb : Int), wrap64 (nd : Int)⟩ _ HM.out _) ?_; rintro e wd ⟨rfl, hb⟩
  rw [← HRR.out]
  have hl0 := R0.out.lt
  replace GF := Lib.hid (GF.out.keep hb)
  replace R0 := Lib.hid (R0.out.keep hb)
  replace HB := Lib.hid (HB.out.trans (hb.mono (by omega)))
  clear hb rw2 hl0 HR
  have rw3 : wd.row? gf 0 15 = some RR := by rw [HRR.out]; exact GF.out.row?_all 15 rfl
  have pt3 : wd.put? b0 0 RR = some (wd.putRow b0 0 RR) := R0.out.put? 0 RR (by rw [HRR.out]; simp) (by rw [HRR.out]; exact ones15 _ _ _ _ _ _ _ _ _ _ _ _ _ _ _)
  have hsz3 : RR.size = 15 := by rw [HRR.out]; rfl
  have l0 := R0.out.lt; have l3 := GF.out.lt
  go_wp2_with fail
  exact bodyPost_row_t 15 RR (.int .i64 0) rfl rfl rfl rfl Try.underlying29 rfl (by kernel_rfl) (row_put pt3 (by rw [HRR.out]; rfl)) ⟨by rw [HRR.out], by rw [← HB0.out]; exact Below_putRow HB.out (Nat.le_refl _) _ _⟩
end Go.Proofs.Ytdipecepgfaokaa
namespace Go.Proofs.Ytdipecepgfaokaa
set_option linter.unusedSimpArgs false
set_option linter.unusedVariables false
open Go.RowKit

set_option maxRecDepth 100000 in
set_option maxHeartbeats 16000000 in
theorem rdecode_n (v : Value) (l : List Nat) (w : World) (h : RdB w v l) (hl : l.length = 80) (hm : l.take 4 = [97, 108, 105, 49]) (hsum : nAt l 76 4 = crc (l.take 76)) (hmay : mayF (frL l) = false) :
    Calls Try.prog 15 #[v] w fun e w' => e = .returned (.tuple #[frZ, .int .i64 5]) ∧ Below w.heap.size w w' := by
  obtain ⟨nk, hk⟩ : ∃ z, nAt l 4 1 = z := ⟨_, rfl⟩
  obtain ⟨ns, hs⟩ : ∃ z, nAt l 5 1 = z := ⟨_, rfl⟩
  obtain ⟨nds, hds⟩ : ∃ z, nAt l 6 1 = z := ⟨_, rfl⟩
  obtain ⟨nwh, hwh⟩ : ∃ z, nAt l 7 1 = z := ⟨_, rfl⟩
  obtain ⟨nbo, hbo⟩ : ∃ z, nAt l 8 2 = z := ⟨_, rfl⟩
  obtain ⟨nsq, hsq⟩ : ∃ z, nAt l 10 2 = z := ⟨_, rfl⟩
  obtain ⟨nst, hst⟩ : ∃ z, nAt l 12 8 = z := ⟨_, rfl⟩
  obtain ⟨nta, hta⟩ : ∃ z, nAt l 20 8 = z := ⟨_, rfl⟩
  obtain ⟨ntb, htb⟩ : ∃ z, nAt l 28 8 = z := ⟨_, rfl⟩
  obtain ⟨nwn, hwn⟩ : ∃ z, nAt l 36 8 = z := ⟨_, rfl⟩
  obtain ⟨nx, hx⟩ : ∃ z, nAt l 44 4 = z := ⟨_, rfl⟩
  obtain ⟨ny, hy⟩ : ∃ z, nAt l 48 4 = z := ⟨_, rfl⟩
  obtain ⟨na, ha⟩ : ∃ z, nAt l 52 8 = z := ⟨_, rfl⟩
  obtain ⟨nbb, hbb⟩ : ∃ z, nAt l 60 8 = z := ⟨_, rfl⟩
  obtain ⟨nd, hd⟩ : ∃ z, nAt l 68 8 = z := ⟨_, rfl⟩
  have bk : nk < 256 := by rw [← hk]; exact nAt_lt l h.1 4 1
  have ik : wrap64 (nk : Int) = (nk : Int) := by unfold wrap64; omega
  have bs : ns < 256 := by rw [← hs]; exact nAt_lt l h.1 5 1
  have is : wrap64 (ns : Int) = (ns : Int) := by unfold wrap64; omega
  have bds : nds < 256 := by rw [← hds]; exact nAt_lt l h.1 6 1
  have ids : wrap64 (nds : Int) = (nds : Int) := by unfold wrap64; omega
  have bwh : nwh < 256 := by rw [← hwh]; exact nAt_lt l h.1 7 1
  have iwh : wrap64 (nwh : Int) = (nwh : Int) := by unfold wrap64; omega
  have HF : Hid (frL l = ⟨(nk : Int), (ns : Int), wrap64 (nbo : Int), wrap64 (nsq : Int), wrap64 (nst : Int), (nds : Int), wrap64 (nta : Int), wrap64 (ntb : Int), (nwh : Int), wrap64 (nwn : Int), wrap32 (nx : Int), wrap32 (ny : Int), wrap64 (na : Int), wrap64 (nbb : Int), wrap64 (nd : Int)⟩) := by show _ = _; unfold frL; rw [hk, hs, hds, hwh, hbo, hsq, hst, hta, htb, hwn, hx, hy, ha, hbb, hd, ik, is, ids, iwh]
  clear ik is ids iwh
  rw [HF.out] at hmay
  replace hk := Lib.hid hk
  replace hs := Lib.hid hs
  replace hds := Lib.hid hds
  replace hwh := Lib.hid hwh
  replace hbo := Lib.hid hbo
  replace hsq := Lib.hid hsq
  replace hst := Lib.hid hst
  replace hta := Lib.hid hta
  replace htb := Lib.hid htb
  replace hwn := Lib.hid hwn
  replace hx := Lib.hid hx
  replace hy := Lib.hid hy
  replace ha := Lib.hid ha
  replace hbb := Lib.hid hbb
  replace hd := Lib.hid hd
  have HM := Lib.hid hmay
  clear hmay
  obtain ⟨ao, cap, rfl⟩ := h.form
  have hy := h.1
  have hcap : 80 ≤ cap := by obtain ⟨_, _, _, e, hc, _⟩ := h; cases e; omega
  obtain ⟨b, o, rfl, hb, hc0⟩ : ∃ b o, ao = some ⟨b, o, none⟩ ∧ b < w.heap.size ∧ w.cell? ⟨b, o + 0, none⟩ = some (.int .u8 ((l.getD 0 0 : Nat) : Int)) := by
    obtain ⟨_, ao', _, e, _, H⟩ := h; cases e; exact H 0 (by omega)
  have h4 := h.cutL 4 cap (by omega) (by omega)
  have HS := Lib.hid (h.cutL 76 cap (by omega) (by omega))
  rw [hl] at h
  rw [hl]
  have HR := Lib.hid h
  have hcv := conv_rd (h4.below (w' := w.alloc (Obj.cells #[.int .i64 0, .int .i64 0, .int .i64 0, .int .i64 0, .int .i64 0, .int .i64 0, .int .i64 0, .int .i64 0, .int .i64 0, .int .i64 0, .int .i64 0, .int .i64 0, .int .i64 0, .int .i64 0, .int .i64 0] 29)) ((Below.refl _ _).alloc (Nat.le_refl _) _))
  rw [hm] at hcv
  have hne : ∀ w', Sem.run Try.prog (binOp .neq 9 (strB [97, 108, 105, 49]) (Value.string { data := #[97, 108, 105, 49] })) w' = .ok (.bool false) w' := fun w' => neq_strB [97, 108, 105, 49] [97, 108, 105, 49] (by intro c hc; simp at hc; omega) (by intro c hc; simp at hc; omega) 9 w'
  have hgd : ∀ (x y : Operand) (w' : World), Sem.run Try.prog (eqGuard .neq 9 x y (strB [97, 108, 105, 49]) (Value.string { data := #[97, 108, 105, 49] })) w' = .ok () w' := fun x y w' => eqg_strB .neq 9 x y [97, 108, 105, 49] [97, 108, 105, 49] w'
  have HL := Lib.hid hl
  have hnl : nAt l 76 4 < 4294967296 := by unfold nAt; exact nb_lt4 (byt_take (byt_drop hy 76) 4) (by rw [List.length_take, List.length_drop]; omega)
  have HY := Lib.hid hy
  have c76 : (76 : Int) ≤ (cap : Int) := by omega
  have c4 : (4 : Int) ≤ (cap : Int) := by omega
  obtain ⟨b0, hb0⟩ : ∃ b0, b0 = w.heap.size := ⟨_, rfl⟩
  clear hm h4 h hc0 hl hy
  go_enter Try.func15, Try.ntmps15
  go_wp2_with fail
  refine name_wp ?_; intro u0 hu0
  have R0 : Hid (Blk u0 b0 #[.int .i64 0, .int .i64 0, .int .i64 0, .int .i64 0, .int .i64 0, .int .i64 0, .int .i64 0, .int .i64 0, .int .i64 0, .int .i64 0, .int .i64 0, .int .i64 0, .int .i64 0, .int .i64 0, .int .i64 0] 29) := by rw [hu0, hb0]; exact Blk.new _ _ _
  have hB0 : Below b0 w u0 := by rw [hu0, hb0]; show Below w.heap.size w _; exact (by repeat (first | with_reducible exact Below.refl _ _ | with_reducible exact Below_of_hid (by assumption) | with_reducible refine Below.drew ?_ | with_reducible refine below_drewN ?_ _ | (with_reducible refine Below_putRow ?_ ?hB _ _; case hB => (first | omega | (simp; done) | (simp; omega))) | (with_reducible refine Below.alloc ?_ ?hB _; case hB => (first | omega | (simp; done) | (simp; omega))) | (with_reducible refine Below.setCell ?_ ?hB _; case hB => (first | omega | (simp; done) | (simp; omega))) | (with_reducible refine Below.trans ?_ (Below.mono (by assumption) ?hB); case hB => (first | omega | (simp; done) | (simp; omega)))))
  have HB := Lib.hid hB0
  have HB0 := Lib.hid hb0
  have hbw : Below w.heap.size w u0 := by rw [← hb0]; exact hB0
  replace HR := Lib.hid (HR.out.below hbw)
  replace HS := Lib.hid (HS.out.below hbw)
  have hbl : b < b0 := by omega
  have hsz : b0 < u0.heap.size := R0.out.lt
  rw [← hb0]
  clear hu0 hb0 hB0 hbw hb hcv hne hgd
  obtain ⟨N, hN⟩ : ∃ N, N = nAt l 76 4 := ⟨_, rfl⟩
  obtain ⟨C, hC⟩ : ∃ C, C = crc (l.take 76) := ⟨_, rfl⟩
  have hCl : C < 4294967296 := by rw [hC]; exact crc_lt _
  rw [← hN] at hnl
  have hNC : ((N : Int) != (C : Int)) = false := by rw [hN, hC]; simp [Int.ofNat_inj, hsum]
  have HN := Lib.hid hN.symm
  have HC := Lib.hid hC.symm
  clear hN hC
  refine wp_region_quiet_below (by kernel_rfl) (by kernel_rfl) ?_
  repeat (go_big_quiet_step (first
    | (go_at_call 31; exact Calls.regrown_of (get_x _ l 76 4 N _ HN.out (by decide) (by decide) (by have := HL.out; omega) (by have := HL.out; omega) (HR.out.below (below_of_regrown ⟨⟨_, _⟩, rfl⟩))))
    | (go_at_call 13; exact Calls.regrown_of (sumB_x _ (l.take 76) C _ HC.out (HS.out.below (below_of_regrown ⟨⟨_, _⟩, rfl⟩)) (by rw [List.length_take]; omega)))))
  refine wpQuiet_nil ?_
  intro wc hw
  have hb := below_of_regrown hw
  replace R0 := Lib.hid (R0.out.keep hb)
  replace HB := Lib.hid (HB.out.trans (hb.mono (by omega)))
  replace HR := Lib.hid (HR.out.below hb)
  have hsw := hb.size
  clear hw hb HS
  have HC8 : Hid (∀ j, j < 80 → wc.cell? ⟨b, o + j, none⟩ = some (.int .u8 ((l.getD j 0 : Nat) : Int))) := by
    intro j hj
    obtain ⟨_, ao', _, e, _, H⟩ := HR.out
    obtain ⟨b', o', e', _, hv⟩ := H j (by have := HL.out; omega)
    simp only [Value.slice.injEq] at e
    obtain ⟨rfl, -, -⟩ := e
    cases e'; exact hv
  have cck := @inw_cell _ _ _ (show wc.cell? ⟨b, o + 4, none⟩ = some (.int .u8 (nk : Int)) from by rw [← hk.out, nAt_one l 4 (by have := HL.out; omega)]; exact HC8.out 4 (by decide))
  have ccs := @inw_cell _ _ _ (show wc.cell? ⟨b, o + 5, none⟩ = some (.int .u8 (ns : Int)) from by rw [← hs.out, nAt_one l 5 (by have := HL.out; omega)]; exact HC8.out 5 (by decide))
  have ccds := @inw_cell _ _ _ (show wc.cell? ⟨b, o + 6, none⟩ = some (.int .u8 (nds : Int)) from by rw [← hds.out, nAt_one l 6 (by have := HL.out; omega)]; exact HC8.out 6 (by decide))
  have ccwh := @inw_cell _ _ _ (show wc.cell? ⟨b, o + 7, none⟩ = some (.int .u8 (nwh : Int)) from by rw [← hwh.out, nAt_one l 7 (by have := HL.out; omega)]; exact HC8.out 7 (by decide))
  go_wp2_with fail
  refine wp_region_fresh' 36 (fun k => match k with | 35 => some ⟨.cells #[.int .i64 0, .int .i64 0, .int .i64 0, .int .i64 0, .int .i64 0, .int .i64 0, .int .i64 0, .int .i64 0, .int .i64 0, .int .i64 0, .int .i64 0, .int .i64 0, .int .i64 0, .int .i64 0, .int .i64 0] 29, fun g => .pointer (some ⟨g, 0, none⟩)⟩ | _ => none) (fun _ => []) (by kernel_rfl) (by kernel_rfl) ?_; refine ex_list ?_; apply Exists.intro; refine ex_list ?_; apply Exists.intro; refine ex_list ?_; apply Exists.intro; refine ex_list ?_; apply Exists.intro; refine ex_list ?_; apply Exists.intro; refine ex_list ?_; apply Exists.intro; refine ex_list ?_; apply Exists.intro; refine ex_list ?_; apply Exists.intro; refine ex_list ?_; apply Exists.intro; refine ex_list ?_; apply Exists.intro; refine ex_list ?_; apply Exists.intro; refine ex_list ?_; apply Exists.intro; refine ex_list ?_; apply Exists.intro; refine ex_list ?_; apply Exists.intro; refine ex_list ?_; apply Exists.intro; refine ex_list ?_; apply Exists.intro; refine ex_list ?_; apply Exists.intro; refine ex_list ?_; apply Exists.intro; refine ex_list ?_; apply Exists.intro; refine ex_list ?_; apply Exists.intro; refine ex_list ?_; apply Exists.intro; refine ex_list ?_; apply Exists.intro; refine ex_list ?_; apply Exists.intro; refine ex_list ?_; apply Exists.intro; refine ex_list ?_; apply Exists.intro; refine ex_list ?_; apply Exists.intro; refine ex_list ?_; apply Exists.intro; refine ex_list ?_; apply Exists.intro; refine ex_list ?_; apply Exists.intro; refine ex_list ?_; apply Exists.intro; refine ex_list ?_; apply Exists.intro; refine ex_list ?_; apply Exists.intro; refine ex_list ?_; apply Exists.intro; refine ex_list ?_; apply Exists.intro; refine ex_list ?_; apply Exists.intro; refine ex_list ⟨undef, ?_⟩; refine ⟨[], fun gg NN hN => ?_⟩; simp only [List.take_succ_cons, List.take_zero, List.drop_succ_cons, List.drop_zero]; (repeat (first | (refine lexF_quiet rfl ?_; go_big_quiet_step (first | exact rfl | ((rename_i px; go_at_call 31; first | with_reducible exact calls_in (get_y 8 2 _ l 8 2 nbo _ rfl rfl hbo.out (by decide) (by decide) (by have := HL.out; omega) (by have := HL.out; omega) (HR.out.below (inw_low px))) | with_reducible exact calls_in (get_y 10 2 _ l 10 2 nsq _ rfl rfl hsq.out (by decide) (by decide) (by have := HL.out; omega) (by have := HL.out; omega) (HR.out.below (inw_low px))) | with_reducible exact calls_in (get_y 12 8 _ l 12 8 nst _ rfl rfl hst.out (by decide) (by decide) (by have := HL.out; omega) (by have := HL.out; omega) (HR.out.below (inw_low px))) | with_reducible exact calls_in (get_y 20 8 _ l 20 8 nta _ rfl rfl hta.out (by decide) (by decide) (by have := HL.out; omega) (by have := HL.out; omega) (HR.out.below (inw_low px))) | with_reducible exact calls_in (get_y 28 8 _ l 28 8 ntb _ rfl rfl htb.out (by decide) (by decide) (by have := HL.out; omega) (by have := HL.out; omega) (HR.out.below (inw_low px))) | with_reducible exact calls_in (get_y 36 8 _ l 36 8 nwn _ rfl rfl hwn.out (by decide) (by decide) (by have := HL.out; omega) (by have := HL.out; omega) (HR.out.below (inw_low px)))))); refine wpQuiet_nil ⟨rfl, ?_⟩) | (refine lexF_fresh _ (by rfl) (by rfl) ?hex ?_; (case hex => (intro wx; first | (go_simp; done) | (go_simp; rfl))); simp only [Act.put, List.setIfInBounds_toArray, List.set_cons_succ, List.set_cons_zero])))
  refine lexF_nil ?_
  intro x1 hb' hh hdd
  have hb : Below wc.heap.size wc x1 := hb'
  obtain ⟨l5, e5⟩ := hh 35 _ (by decide) rfl
  obtain ⟨gf, hgf⟩ : ∃ g, gg 35 = g := ⟨_, rfl⟩
  rw [hgf] at l5 e5 ⊢
  have GF : Hid (Blk x1 gf #[.int .i64 0, .int .i64 0, .int .i64 0, .int .i64 0, .int .i64 0, .int .i64 0, .int .i64 0, .int .i64 0, .int .i64 0, .int .i64 0, .int .i64 0, .int .i64 0, .int .i64 0, .int .i64 0, .int .i64 0] 29) := e5
  clear hb' hh hdd e5 HC8 hgf cck ccs ccds ccwh
  replace R0 := Lib.hid (R0.out.keep hb)
  have hsx := hb.size
  replace HB := Lib.hid (HB.out.trans (hb.mono (by omega)))
  replace HR := Lib.hid (HR.out.below hb)
  have hgl : b0 < gf := by omega
  clear hb
  have lf := GF.out.lt; have ff := GF.out.frozen
  have q0 := GF.out.cell (i := 0) (v := .int .i64 0) rfl
  have q1 := GF.out.cell (i := 1) (v := .int .i64 0) rfl
  have q2 := GF.out.cell (i := 2) (v := .int .i64 0) rfl
  have q3 := GF.out.cell (i := 3) (v := .int .i64 0) rfl
  have q4 := GF.out.cell (i := 4) (v := .int .i64 0) rfl
  have q5 := GF.out.cell (i := 5) (v := .int .i64 0) rfl
  have q6 := GF.out.cell (i := 6) (v := .int .i64 0) rfl
  have q7 := GF.out.cell (i := 7) (v := .int .i64 0) rfl
  have q8 := GF.out.cell (i := 8) (v := .int .i64 0) rfl
  have q9 := GF.out.cell (i := 9) (v := .int .i64 0) rfl
  have q10 := GF.out.cell (i := 10) (v := .int .i64 0) rfl
  have q11 := GF.out.cell (i := 11) (v := .int .i64 0) rfl
  have q12 := GF.out.cell (i := 12) (v := .int .i64 0) rfl
  have q13 := GF.out.cell (i := 13) (v := .int .i64 0) rfl
  have q14 := GF.out.cell (i := 14) (v := .int .i64 0) rfl
  go_wp2_with fail
  refine name_calls ?_; intro u1 hu1
  have hne0 : b0 ≠ gf := by omega
  replace R0 := (show Hid (Blk u1 b0 #[.int .i64 0, .int .i64 0, .int .i64 0, .int .i64 0, .int .i64 0, .int .i64 0, .int .i64 0, .int .i64 0, .int .i64 0, .int .i64 0, .int .i64 0, .int .i64 0, .int .i64 0, .int .i64 0, .int .i64 0] 29) by rw [hu1]; exact (((((((((((((((R0.out.setCell_other hne0 _).setCell_other hne0 _).setCell_other hne0 _).setCell_other hne0 _).setCell_other hne0 _).setCell_other hne0 _).setCell_other hne0 _).setCell_other hne0 _).setCell_other hne0 _).setCell_other hne0 _).setCell_other hne0 _).setCell_other hne0 _).setCell_other hne0 _).setCell_other hne0 _).setCell_other hne0 _))
  have hbS : OnlyAt gf x1 u1 := by rw [hu1]; exact (((((((((((((((OnlyAt.refl.setCell 0 _).setCell 1 _).setCell 2 _).setCell 3 _).setCell 4 _).setCell 5 _).setCell 6 _).setCell 7 _).setCell 8 _).setCell 9 _).setCell 10 _).setCell 11 _).setCell 12 _).setCell 13 _).setCell 14 _)
  replace HR := Lib.hid (rd_only15 hbS GF.out HR.out)
  have GF2 : Hid (Blk u1 gf #[.int .i64 ((nk : Int)), .int .i64 ((ns : Int)), .int .i64 (wrap64 (nbo : Int)), .int .i64 (wrap64 (nsq : Int)), .int .i64 (wrap64 (nst : Int)), .int .i64 ((nds : Int)), .int .i64 (wrap64 (nta : Int)), .int .i64 (wrap64 (ntb : Int)), .int .i64 ((nwh : Int)), .int .i64 (wrap64 (nwn : Int)), .int .i64 (0), .int .i64 (0), .int .i64 (0), .int .i64 (0), .int .i64 (0)] 29) := by rw [hu1]; exact Blk.of_eq ((((((((((((((((GF.out.setCell_same 0 _).setCell_same 1 _).setCell_same 2 _).setCell_same 3 _).setCell_same 4 _).setCell_same 5 _).setCell_same 6 _).setCell_same 7 _).setCell_same 8 _).setCell_same 9 _).setCell_same 10 _).setCell_same 11 _).setCell_same 12 _).setCell_same 13 _).setCell_same 14 _)) (by simp)
  replace GF := GF2
  replace HB := Lib.hid (hbS.below HB.out (by rw [HB0.out]; exact Nat.le_refl _) (by omega))
  clear GF2 hbS hne0 hu1 lf ff q0 q1 q2 q3 q4 q5 q6 q7 q8 q9 q10 q11 q12 q13 q14
  have lR := R0.out.lt
  refine Calls.mono (get_x _ l 44 4 nx _ hx.out (by decide) (by decide) (by have := HL.out; omega) (by have := HL.out; omega) HR.out) ?_; rintro e x2 ⟨rfl, hb⟩
  replace R0 := Lib.hid (R0.out.keep hb)
  replace GF := Lib.hid (GF.out.keep hb)
  replace HB := Lib.hid (HB.out.trans (hb.mono (by omega)))
  replace HR := Lib.hid (HR.out.below hb)
  clear hb lR
  go_wp2_with fail
  have lR := R0.out.lt
  refine Calls.mono (get_x _ l 48 4 ny _ hy.out (by decide) (by decide) (by have := HL.out; omega) (by have := HL.out; omega) HR.out) ?_; rintro e x3 ⟨rfl, hb⟩
  replace R0 := Lib.hid (R0.out.keep hb)
  replace GF := Lib.hid (GF.out.keep hb)
  replace HB := Lib.hid (HB.out.trans (hb.mono (by omega)))
  replace HR := Lib.hid (HR.out.below hb)
  clear hb lR
  have lf := GF.out.lt; have ff := GF.out.frozen
  have q10 := GF.out.cell (i := 10) (v := .int .i64 0) rfl
  have q11 := GF.out.cell (i := 11) (v := .int .i64 0) rfl
  go_wp2_with fail
  refine name_calls ?_; intro y0 hy0
  have hne0 : b0 ≠ gf := by omega
  replace R0 := (show Hid (Blk y0 b0 #[.int .i64 0, .int .i64 0, .int .i64 0, .int .i64 0, .int .i64 0, .int .i64 0, .int .i64 0, .int .i64 0, .int .i64 0, .int .i64 0, .int .i64 0, .int .i64 0, .int .i64 0, .int .i64 0, .int .i64 0] 29) by rw [hy0]; exact ((R0.out.setCell_other hne0 _).setCell_other hne0 _))
  have hbS : OnlyAt gf x3 y0 := by rw [hy0]; exact ((OnlyAt.refl.setCell 10 _).setCell 11 _)
  replace HR := Lib.hid (rd_only15 hbS GF.out HR.out)
  have GF2 : Hid (Blk y0 gf #[.int .i64 ((nk : Int)), .int .i64 ((ns : Int)), .int .i64 (wrap64 (nbo : Int)), .int .i64 (wrap64 (nsq : Int)), .int .i64 (wrap64 (nst : Int)), .int .i64 ((nds : Int)), .int .i64 (wrap64 (nta : Int)), .int .i64 (wrap64 (ntb : Int)), .int .i64 ((nwh : Int)), .int .i64 (wrap64 (nwn : Int)), .int .i64 (wrap32 (nx : Int)), .int .i64 (wrap32 (ny : Int)), .int .i64 (0), .int .i64 (0), .int .i64 (0)] 29) := by rw [hy0]; exact Blk.of_eq (((GF.out.setCell_same 10 _).setCell_same 11 _)) (by simp [wrap_6432])
  replace GF := GF2
  replace HB := Lib.hid (hbS.below HB.out (by rw [HB0.out]; exact Nat.le_refl _) (by omega))
  clear GF2 hbS hne0 hy0 lf ff q10 q11
  have lR := R0.out.lt
  refine Calls.mono (get_x _ l 52 8 na _ ha.out (by decide) (by decide) (by have := HL.out; omega) (by have := HL.out; omega) HR.out) ?_; rintro e x4 ⟨rfl, hb⟩
  replace R0 := Lib.hid (R0.out.keep hb)
  replace GF := Lib.hid (GF.out.keep hb)
  replace HB := Lib.hid (HB.out.trans (hb.mono (by omega)))
  replace HR := Lib.hid (HR.out.below hb)
  clear hb lR
  go_wp2_with fail
  have lR := R0.out.lt
  refine Calls.mono (get_x _ l 60 8 nbb _ hbb.out (by decide) (by decide) (by have := HL.out; omega) (by have := HL.out; omega) HR.out) ?_; rintro e x5 ⟨rfl, hb⟩
  replace R0 := Lib.hid (R0.out.keep hb)
  replace GF := Lib.hid (GF.out.keep hb)
  replace HB := Lib.hid (HB.out.trans (hb.mono (by omega)))
  replace HR := Lib.hid (HR.out.below hb)
  clear hb lR
  go_wp2_with fail
  have lR := R0.out.lt
  refine Calls.mono (get_x _ l 68 8 nd _ hd.out (by decide) (by decide) (by have := HL.out; omega) (by have := HL.out; omega) HR.out) ?_; rintro e x6 ⟨rfl, hb⟩
  replace R0 := Lib.hid (R0.out.keep hb)
  replace GF := Lib.hid (GF.out.keep hb)
  replace HB := Lib.hid (HB.out.trans (hb.mono (by omega)))
  replace HR := Lib.hid (HR.out.below hb)
  clear hb lR
  have lf := GF.out.lt; have ff := GF.out.frozen
  have q12 := GF.out.cell (i := 12) (v := .int .i64 0) rfl
  have q13 := GF.out.cell (i := 13) (v := .int .i64 0) rfl
  have q14 := GF.out.cell (i := 14) (v := .int .i64 0) rfl
  go_upto_region 10 with fail
  refine name_wp ?_; intro y1 hy1
  have hne0 : b0 ≠ gf := by omega
  replace R0 := (show Hid (Blk y1 b0 #[.int .i64 0, .int .i64 0, .int .i64 0, .int .i64 0, .int .i64 0, .int .i64 0, .int .i64 0, .int .i64 0, .int .i64 0, .int .i64 0, .int .i64 0, .int .i64 0, .int .i64 0, .int .i64 0, .int .i64 0] 29) by rw [hy1]; exact (((R0.out.setCell_other hne0 _).setCell_other hne0 _).setCell_other hne0 _))
  have hbS : OnlyAt gf x6 y1 := by rw [hy1]; exact (((OnlyAt.refl.setCell 12 _).setCell 13 _).setCell 14 _)
  replace HR := Lib.hid (rd_only15 hbS GF.out HR.out)
  have GF2 : Hid (Blk y1 gf #[.int .i64 ((nk : Int)), .int .i64 ((ns : Int)), .int .i64 (wrap64 (nbo : Int)), .int .i64 (wrap64 (nsq : Int)), .int .i64 (wrap64 (nst : Int)), .int .i64 ((nds : Int)), .int .i64 (wrap64 (nta : Int)), .int .i64 (wrap64 (ntb : Int)), .int .i64 ((nwh : Int)), .int .i64 (wrap64 (nwn : Int)), .int .i64 (wrap32 (nx : Int)), .int .i64 (wrap32 (ny : Int)), .int .i64 (wrap64 (na : Int)), .int .i64 (wrap64 (nbb : Int)), .int .i64 (wrap64 (nd : Int))] 29) := by rw [hy1]; exact Blk.of_eq ((((GF.out.setCell_same 12 _).setCell_same 13 _).setCell_same 14 _)) (by simp)
  replace GF := GF2
  replace HB := Lib.hid (hbS.below HB.out (by rw [HB0.out]; exact Nat.le_refl _) (by omega))
  clear GF2 hbS hne0 hy1 lf ff q12 q13 q14
  obtain ⟨RR, hRR⟩ : ∃ R : Array Value, R = #[.int .i64 ((nk : Int)), .int .i64 ((ns : Int)), .int .i64 (wrap64 (nbo : Int)), .int .i64 (wrap64 (nsq : Int)), .int .i64 (wrap64 (nst : Int)), .int .i64 ((nds : Int)), .int .i64 (wrap64 (nta : Int)), .int .i64 (wrap64 (ntb : Int)), .int .i64 ((nwh : Int)), .int .i64 (wrap64 (nwn : Int)), .int .i64 (wrap32 (nx : Int)), .int .i64 (wrap32 (ny : Int)), .int .i64 (wrap64 (na : Int)), .int .i64 (wrap64 (nbb : Int)), .int .i64 (wrap64 (nd : Int))] := ⟨_, rfl⟩
  have rw2 : y1.row? gf 0 15 = some RR := by rw [hRR]; exact GF.out.row?_all 15 rfl
  have HRR := Lib.hid hRR
  clear hRR
  go_wp2_with fail
  rw [HRR.out]
  refine Calls.mono (rframemay_v ⟨(nk : Int), (ns : Int), wrap64 (nbo : Int), wrap64 (nsq : Int), wrap64 (nst : Int), (nds : Int), wrap64 (nta : Int), wrap64 (ntb : Int), (nwh : Int), wrap64 (nwn : Int), wrap32 (nx : Int), wrap32 (ny : Int), wrap64 (na : Int), wrap64 (nbb : Int), wrap64 (nd : Int)⟩ _ HM.out _) ?_; rintro e wd ⟨rfl, hb⟩
  rw [← HRR.out]
  have hl0 := R0.out.lt
  replace GF := Lib.hid (GF.out.keep hb)
  replace R0 := Lib.hid (R0.out.keep hb)
  replace HB := Lib.hid (HB.out.trans (hb.mono (by omega)))
  clear hb rw2 hl0 HR
  have e0 : wd.setCell ⟨b0, 0, none⟩ (.int .i64 0) = wd := R0.out.setCell_self rfl
  have e1 : wd.setCell ⟨b0, 1, none⟩ (.int .i64 0) = wd := R0.out.setCell_self rfl
  have e2 : wd.setCell ⟨b0, 2, none⟩ (.int .i64 0) = wd := R0.out.setCell_self rfl
  have e3 : wd.setCell ⟨b0, 3, none⟩ (.int .i64 0) = wd := R0.out.setCell_self rfl
  have e4 : wd.setCell ⟨b0, 4, none⟩ (.int .i64 0) = wd := R0.out.setCell_self rfl
  have e5 : wd.setCell ⟨b0, 5, none⟩ (.int .i64 0) = wd := R0.out.setCell_self rfl
  have e6 : wd.setCell ⟨b0, 6, none⟩ (.int .i64 0) = wd := R0.out.setCell_self rfl
  have e7 : wd.setCell ⟨b0, 7, none⟩ (.int .i64 0) = wd := R0.out.setCell_self rfl
  have e8 : wd.setCell ⟨b0, 8, none⟩ (.int .i64 0) = wd := R0.out.setCell_self rfl
  have e9 : wd.setCell ⟨b0, 9, none⟩ (.int .i64 0) = wd := R0.out.setCell_self rfl
  have e10 : wd.setCell ⟨b0, 10, none⟩ (.int .i64 0) = wd := R0.out.setCell_self rfl
  have e11 : wd.setCell ⟨b0, 11, none⟩ (.int .i64 0) = wd := R0.out.setCell_self rfl
  have e12 : wd.setCell ⟨b0, 12, none⟩ (.int .i64 0) = wd := R0.out.setCell_self rfl
  have e13 : wd.setCell ⟨b0, 13, none⟩ (.int .i64 0) = wd := R0.out.setCell_self rfl
  have e14 : wd.setCell ⟨b0, 14, none⟩ (.int .i64 0) = wd := R0.out.setCell_self rfl
  have k0 : wd.cell? ⟨b0, 0, none⟩ = some (.int .i64 0) := R0.out.cell rfl
  have k1 : wd.cell? ⟨b0, 1, none⟩ = some (.int .i64 0) := R0.out.cell rfl
  have k2 : wd.cell? ⟨b0, 2, none⟩ = some (.int .i64 0) := R0.out.cell rfl
  have k3 : wd.cell? ⟨b0, 3, none⟩ = some (.int .i64 0) := R0.out.cell rfl
  have k4 : wd.cell? ⟨b0, 4, none⟩ = some (.int .i64 0) := R0.out.cell rfl
  have k5 : wd.cell? ⟨b0, 5, none⟩ = some (.int .i64 0) := R0.out.cell rfl
  have k6 : wd.cell? ⟨b0, 6, none⟩ = some (.int .i64 0) := R0.out.cell rfl
  have k7 : wd.cell? ⟨b0, 7, none⟩ = some (.int .i64 0) := R0.out.cell rfl
  have k8 : wd.cell? ⟨b0, 8, none⟩ = some (.int .i64 0) := R0.out.cell rfl
  have k9 : wd.cell? ⟨b0, 9, none⟩ = some (.int .i64 0) := R0.out.cell rfl
  have k10 : wd.cell? ⟨b0, 10, none⟩ = some (.int .i64 0) := R0.out.cell rfl
  have k11 : wd.cell? ⟨b0, 11, none⟩ = some (.int .i64 0) := R0.out.cell rfl
  have k12 : wd.cell? ⟨b0, 12, none⟩ = some (.int .i64 0) := R0.out.cell rfl
  have k13 : wd.cell? ⟨b0, 13, none⟩ = some (.int .i64 0) := R0.out.cell rfl
  have k14 : wd.cell? ⟨b0, 14, none⟩ = some (.int .i64 0) := R0.out.cell rfl
  have f0 := R0.out.frozen
  have l0 := R0.out.lt
  have r0 := R0.out.row?_all 15 rfl
  go_wp2_with fail
  exact bodyPost_row_t 15 #[.int .i64 0, .int .i64 0, .int .i64 0, .int .i64 0, .int .i64 0, .int .i64 0, .int .i64 0, .int .i64 0, .int .i64 0, .int .i64 0, .int .i64 0, .int .i64 0, .int .i64 0, .int .i64 0, .int .i64 0] (.int .i64 5) rfl rfl rfl rfl Try.underlying29 rfl (by kernel_rfl) r0 ⟨rfl, by rw [← HB0.out]; exact HB.out⟩
end Go.Proofs.Ytdipecepgfaokaa
namespace Go.Proofs.Ytdipecepgfaokaa
set_option linter.unusedSimpArgs false
set_option linter.unusedVariables false
open Go.RowKit

theorem rdecode_c (v : Value) (l : List Nat) (w : World) (h : RdB w v l) :
    Calls Try.prog 15 #[v] w fun e w' => e = .returned (.tuple #[frV (decE l).1, .int .i64 (decE l).2]) ∧ Below w.heap.size w w' := by
  unfold decE
  by_cases h1 : l.length < 80
  · rw [if_pos h1]; exact rdecode_short v l w h h1
  rw [if_neg h1]
  by_cases h2 : 80 < l.length
  · rw [if_pos (.inl h2)]; exact rdecode_long v l w h h2
  by_cases h3 : l.take 4 = [97, 108, 105, 49]
  · rw [if_neg (by rintro (h | h); exact h2 h; exact h h3)]
    by_cases h4 : nAt l 76 4 = crc (l.take 76)
    · rw [if_neg (fun hn => hn h4)]
      cases hm : mayF (frL l) with
      | true => rw [if_pos rfl]; exact rdecode_t v l w h (by omega) h3 h4 hm
      | false => rw [if_neg (by decide)]; exact rdecode_n v l w h (by omega) h3 h4 hm
    · rw [if_pos h4]; exact rdecode_sum v l w h (by omega) h3 h4
  · rw [if_pos (.inr h3)]; exact rdecode_magic v l w h (by omega) h3
theorem rdecode_v (v : Value) (l : List Nat) (f : FrD) (n : Int) (he : decE l = (f, n)) (w : World) (h : RdB w v l) :
    Calls Try.prog 15 #[v] w fun e w' => e = .returned (.tuple #[frV f, .int .i64 n]) ∧ Below w.heap.size w w' := by
  have := rdecode_c v l w h
  rw [he] at this; exact this
/-- The head of a row of the call's own. -/
theorem OwnR.cutS {w : World} {B g n cap : Nat} {xs : List Nat} (h : OwnR w B (.slice (some ⟨g, 0, none⟩) n cap) xs) (m : Nat) (hm : m ≤ n) : OwnR w B (.slice (some ⟨g, 0, none⟩) m cap) (xs.take m) := by
  obtain ⟨hy, hl, ⟨e, _⟩ | ⟨g', cap', cur, e, hB, hg, hc, hmx, hs, ht⟩⟩ := h
  · cases e
  · simp only [Value.slice.injEq, Option.some.injEq, Addr.mk.injEq] at e
    obtain ⟨⟨rfl, -, -⟩, e2, rfl⟩ := e
    have hlm : (xs.take m).length = m := by rw [List.length_take]; omega
    refine ⟨byt_take hy m, by simp, .inr ⟨g, cap, cur, by rw [hlm], hB, hg, by rw [hlm]; omega, hmx, hs, ?_⟩⟩
    rw [hlm, List.map_take, ← ht, List.take_take]
    congr 1
    omega
/-- What may come in as bytes. -/
def BytA (w : World) (v : Value) (ys : List Nat) : Prop := RdB w v ys ∧ (v = .slice none 0 0 ∨ ∃ a n c, v = .slice (some a) n c)
theorem BytA.below {w w' : World} {v : Value} {ys : List Nat} (h : BytA w v ys) (hb : Below w.heap.size w w') : BytA w' v ys := ⟨h.1.below hb, h.2⟩
theorem append_any {w : World} {B : Nat} {v x : Value} {xs ys : List Nat} (h : OwnR w B v xs) (hm : BytA w x ys) (hB : B ≤ w.heap.size) (hx : xs.length ≤ 2000000) (hl : ys.length ≤ 1000000) :
    ∃ v' w', (Builtin.append_ #[30, 30] 30 #[v, x]).run Try.prog w = .ok v' w' ∧ OwnR w' B v' (xs ++ ys) ∧ Below B w w' := by
  obtain ⟨R, rfl | ⟨a, n, c, rfl⟩⟩ := hm
  · obtain ⟨i0, hi, hz0, hz1, hz2⟩ := info_parts infoU8
    obtain ⟨hy, ao, cap, e, -, -⟩ := R
    simp only [Value.slice.injEq] at e
    have h0 : ys = [] := List.eq_nil_of_length_eq_zero e.2.1.symm
    subst h0
    refine ⟨v, w, run_append_owned_none (P := Try.prog) w B 30 30 5 i0 1 Try.underlying30 hi v xs.length _ h.2, ?_, Below.refl _ _⟩
    rw [List.append_nil]; exact h
  · obtain ⟨hy, ao, cap, e, -, H⟩ := R
    simp only [Value.slice.injEq] at e
    obtain ⟨rfl, rfl, rfl⟩ := e
    refine append_own h hB hx a c ys hy hl (fun j u hj => ?_)
    rw [List.getElem?_map] at hj
    by_cases hjl : j < ys.length
    · rw [List.getElem?_eq_getElem hjl] at hj
      obtain rfl := Option.some.inj hj
      obtain ⟨b, o, e, _, hv⟩ := H j hjl
      cases e
      rw [Addr.add_lit, hv, List.getD_eq_getElem?_getD, List.getElem?_eq_getElem hjl]; rfl
    · rw [List.getElem?_eq_none (by omega)] at hj; cases hj
/-- The cells of a slice of numbers. -/
def IntsA (w : World) (A : Option Addr) (len : Nat) (T : Nat → Int) : Prop := ∀ i : Nat, i < len → ∃ b o, A = some ⟨b, o, none⟩ ∧ b < w.heap.size ∧ w.cell? ⟨b, o + i, none⟩ = some (.int .i64 (T i))
theorem IntsA.below {w w' : World} {A : Option Addr} {len : Nat} {T : Nat → Int} (h : IntsA w A len T) (hb : Below w.heap.size w w') : IntsA w' A len T := fun i hi => by
  obtain ⟨b, o, e, hl, hv⟩ := h i hi
  exact ⟨b, o, e, Nat.lt_of_lt_of_le hl hb.size, (hb.cell (p := ⟨b, o + i, none⟩) hl).trans hv⟩
end Go.Proofs.Ytdipecepgfaokaa
